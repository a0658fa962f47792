/- Chapter 24: the document's Take. -/
import Derived.Test.YtbhfidneijogfaaClkN
import Derived.Test.YtbhfidneijogfaaClkK
import Derived.Deep.CutRange
namespace Go.Proofs.Ytbhfidneijogfaa
open Go.RowKit
set_option linter.unusedVariables false
set_option linter.unusedSimpArgs false
attribute [local go_sem] Oper.semAt_some
theorem rtk_results (w : World) (tmps : Array Value) (g : Nat) (a0 a1 a2 a3 a4 v : Value) (h2 : tmps.getD 2 undef = .pointer (some ⟨g, 0, none⟩)) (h3 : tmps.getD 3 undef = v)
    (hg : Blk w g 62 #[a0, a1, a2, a3, a4]) : (results Try.f46 tmps).run Try.prog w = .ok (.tuple #[.agg #[a0, a1, a2, a3, a4], v]) w := by
  have f0 := hg.cell 0
  have f1 := hg.cell 1
  have f2 := hg.cell 2
  have f3 := hg.cell 3
  have f4 := hg.cell 4
  simp at f0 f1 f2 f3 f4
  simp at h2 h3
  simp only [results, Try.f46]
  simp [h2, h3]
  go_simp
set_option maxRecDepth 20000 in
set_option maxHeartbeats 4000000 in
theorem r_take0 (s : ByteArray) (w : World) (hs0 : s.size ≤ 100) (hz : s.size = 0) : Calls Try.prog 46 #[.string s] w (Taken s w) := by
  have HC : Hid (takeC s = .agg #[.bool false, .int .i64 0, .int .i64 0, .int .i64 0, .int .i64 0]) := hid (by unfold takeC; rw [if_neg (by omega)])
  have HE : Hid (takeE s = 0) := hid (by unfold takeE tkB tkM; simp [hz])
  have he := empty_is s hz
  have he2 : s.toList.isEmpty = true := by rw [he]; rfl
  clear hz
  have e2 := Blk.new w 62 #[.bool false, .int .i64 0, .int .i64 0, .int .i64 0, .int .i64 0]
  have hb := (Below.refl w.heap.size w).alloc (Nat.le_refl _) (.cells #[.bool false, .int .i64 0, .int .i64 0, .int .i64 0, .int .i64 0] 62)
  go_enter Try.func46, Try.ntmps46
  go_upto_region 1 with (fail)
  generalize w.alloc (.cells #[.bool false, .int .i64 0, .int .i64 0, .int .i64 0, .int .i64 0] 62) = W at *
  have c0 : (W).cell? ⟨w.heap.size, 0, none⟩ = some (.bool false) := e2.cell 0
  have c1 : (W).cell? ⟨w.heap.size, 1, none⟩ = some (.int .i64 0) := e2.cell 1
  have c2 : (W).cell? ⟨w.heap.size, 2, none⟩ = some (.int .i64 0) := e2.cell 2
  have c3 : (W).cell? ⟨w.heap.size, 3, none⟩ = some (.int .i64 0) := e2.cell 3
  have c4 : (W).cell? ⟨w.heap.size, 4, none⟩ = some (.int .i64 0) := e2.cell 4
  have z0 := e2.frozen 0
  have z1 := e2.frozen 1
  have z2 := e2.frozen 2
  have z3 := e2.frozen 3
  have z4 := e2.frozen 4
  go_wp2_with fail
  have t2 := (((((e2.set_ 0 (.bool false)).set_ 1 (.int .i64 0)).set_ 2 (.int .i64 0)).set_ 3 (.int .i64 0)).set_ 4 (.int .i64 0))
  have tb := (((((hb.setCell (p := ⟨w.heap.size, 0, none⟩) (by simp) (.bool false)).setCell (p := ⟨w.heap.size, 1, none⟩) (by simp) (.int .i64 0)).setCell (p := ⟨w.heap.size, 2, none⟩) (by simp) (.int .i64 0)).setCell (p := ⟨w.heap.size, 3, none⟩) (by simp) (.int .i64 0)).setCell (p := ⟨w.heap.size, 4, none⟩) (by simp) (.int .i64 0))
  refine bodyPost_ret (rtk_results _ _ w.heap.size _ _ _ _ _ _ rfl rfl t2) rfl ⟨?_, tb⟩
  rw [HC.out, HE.out]
  rfl
set_option maxRecDepth 20000 in
set_option maxHeartbeats 4000000 in
theorem r_takeS (s : ByteArray) (w : World) (hs0 : s.size ≤ 100) (h0 : 0 < s.size) (h6 : s.size < 6) : Calls Try.prog 46 #[.string s] w (Taken s w) := by
  have hbf : tkB s = false := by rw [tkB_ref s (by omega)]; unfold refB; simp; omega
  have HC : Hid (takeC s = .agg #[.bool false, .int .i64 0, .int .i64 0, .int .i64 0, .int .i64 0]) := hid (by unfold takeC; rw [if_neg (fun h => by rw [hbf] at h; exact absurd h.2.1 (by decide))])
  have HE : Hid (takeE s = 3) := hid (by unfold takeE; rw [hbf]; rfl)
  clear hbf
  have he := empty_no s (by omega)
  have d6 : decide ((s.size : Int) < 6) = true := by simp; omega
  have e2 := Blk.new w 62 #[.bool false, .int .i64 0, .int .i64 0, .int .i64 0, .int .i64 0]
  have hb := (Below.refl w.heap.size w).alloc (Nat.le_refl _) (.cells #[.bool false, .int .i64 0, .int .i64 0, .int .i64 0, .int .i64 0] 62)
  go_enter Try.func46, Try.ntmps46
  go_upto_region 1 with (fail)
  generalize w.alloc (.cells #[.bool false, .int .i64 0, .int .i64 0, .int .i64 0, .int .i64 0] 62) = W at *
  have c0 : (W).cell? ⟨w.heap.size, 0, none⟩ = some (.bool false) := e2.cell 0
  have c1 : (W).cell? ⟨w.heap.size, 1, none⟩ = some (.int .i64 0) := e2.cell 1
  have c2 : (W).cell? ⟨w.heap.size, 2, none⟩ = some (.int .i64 0) := e2.cell 2
  have c3 : (W).cell? ⟨w.heap.size, 3, none⟩ = some (.int .i64 0) := e2.cell 3
  have c4 : (W).cell? ⟨w.heap.size, 4, none⟩ = some (.int .i64 0) := e2.cell 4
  have z0 := e2.frozen 0
  have z1 := e2.frozen 1
  have z2 := e2.frozen 2
  have z3 := e2.frozen 3
  have z4 := e2.frozen 4
  go_wp2_with fail
  have t2 := (((((e2.set_ 0 (.bool false)).set_ 1 (.int .i64 0)).set_ 2 (.int .i64 0)).set_ 3 (.int .i64 0)).set_ 4 (.int .i64 0))
  have tb := (((((hb.setCell (p := ⟨w.heap.size, 0, none⟩) (by simp) (.bool false)).setCell (p := ⟨w.heap.size, 1, none⟩) (by simp) (.int .i64 0)).setCell (p := ⟨w.heap.size, 2, none⟩) (by simp) (.int .i64 0)).setCell (p := ⟨w.heap.size, 3, none⟩) (by simp) (.int .i64 0)).setCell (p := ⟨w.heap.size, 4, none⟩) (by simp) (.int .i64 0))
  refine bodyPost_ret (rtk_results _ _ w.heap.size _ _ _ _ _ _ rfl rfl t2) rfl ⟨?_, tb⟩
  rw [HC.out, HE.out]
  rfl
set_option maxRecDepth 20000 in
set_option maxHeartbeats 4000000 in
theorem r_takeH (s : ByteArray) (w : World) (hs0 : s.size ≤ 100) (h6 : 6 ≤ s.size) (HD : digsB (s.extract 0 6) = false) : Calls Try.prog 46 #[.string s] w (Taken s w) := by
  have hbf : tkB s = false := by rw [tkB_ref s (by omega)]; unfold refB; rw [HD]; simp
  have HC : Hid (takeC s = .agg #[.bool false, .int .i64 0, .int .i64 0, .int .i64 0, .int .i64 0]) := hid (by unfold takeC; rw [if_neg (fun h => by rw [hbf] at h; exact absurd h.2.1 (by decide))])
  have HE : Hid (takeE s = 3) := hid (by unfold takeE; rw [hbf]; rfl)
  clear hbf
  have he := empty_no s (by omega)
  have HH := hid fun w => r_digs (s.extract 0 6) w (by rw [ext_size s 0 6 (by omega)]; omega)
  rw [HD] at HH
  clear HD
  have e2 := Blk.new w 62 #[.bool false, .int .i64 0, .int .i64 0, .int .i64 0, .int .i64 0]
  have hb := (Below.refl w.heap.size w).alloc (Nat.le_refl _) (.cells #[.bool false, .int .i64 0, .int .i64 0, .int .i64 0, .int .i64 0] 62)
  go_enter Try.func46, Try.ntmps46
  go_wp2_with fail
  generalize w.alloc (.cells #[.bool false, .int .i64 0, .int .i64 0, .int .i64 0, .int .i64 0] 62) = W at *
  refine (HH.out _).mono ?_
  rintro e w' ⟨rfl, rfl⟩
  have c0 : (W).cell? ⟨w.heap.size, 0, none⟩ = some (.bool false) := e2.cell 0
  have c1 : (W).cell? ⟨w.heap.size, 1, none⟩ = some (.int .i64 0) := e2.cell 1
  have c2 : (W).cell? ⟨w.heap.size, 2, none⟩ = some (.int .i64 0) := e2.cell 2
  have c3 : (W).cell? ⟨w.heap.size, 3, none⟩ = some (.int .i64 0) := e2.cell 3
  have c4 : (W).cell? ⟨w.heap.size, 4, none⟩ = some (.int .i64 0) := e2.cell 4
  have z0 := e2.frozen 0
  have z1 := e2.frozen 1
  have z2 := e2.frozen 2
  have z3 := e2.frozen 3
  have z4 := e2.frozen 4
  go_wp2_with fail
  have t2 := (((((e2.set_ 0 (.bool false)).set_ 1 (.int .i64 0)).set_ 2 (.int .i64 0)).set_ 3 (.int .i64 0)).set_ 4 (.int .i64 0))
  have tb := (((((hb.setCell (p := ⟨w.heap.size, 0, none⟩) (by simp) (.bool false)).setCell (p := ⟨w.heap.size, 1, none⟩) (by simp) (.int .i64 0)).setCell (p := ⟨w.heap.size, 2, none⟩) (by simp) (.int .i64 0)).setCell (p := ⟨w.heap.size, 3, none⟩) (by simp) (.int .i64 0)).setCell (p := ⟨w.heap.size, 4, none⟩) (by simp) (.int .i64 0))
  refine bodyPost_ret (rtk_results _ _ w.heap.size _ _ _ _ _ _ rfl rfl t2) rfl ⟨?_, tb⟩
  rw [HC.out, HE.out]
  rfl
set_option maxRecDepth 20000 in
set_option maxHeartbeats 4000000 in
theorem r_takeP (s : ByteArray) (w : World) (hs0 : s.size ≤ 100) (h6 : 6 < s.size) (HD : digsB (s.extract 0 6) = true) (h46 : byteP s 6 ≠ 46) : Calls Try.prog 46 #[.string s] w (Taken s w) := by
  have hbf : tkB s = false := by rw [tkB_ref s (by omega)]; unfold refB; rw [HD]; simp [h46]; omega
  have HC : Hid (takeC s = .agg #[.bool false, .int .i64 0, .int .i64 0, .int .i64 0, .int .i64 0]) := hid (by unfold takeC; rw [if_neg (fun h => by rw [hbf] at h; exact absurd h.2.1 (by decide))])
  have HE : Hid (takeE s = 3) := hid (by unfold takeE; rw [hbf]; rfl)
  clear hbf
  have he := empty_no s (by omega)
  have HH := hid fun w => r_digs (s.extract 0 6) w (by rw [ext_size s 0 6 (by omega)]; omega)
  rw [HD] at HH
  have p6 : 6 < s.size := by omega
  have p6c : (6 : Int) < (s.size : Int) := by omega
  have hx := at_is s 6 p6
  have hi : ¬ ((byteP s 6 : Int) = 46) := by omega
  have hi2 : ((byteP s 6 : Int) != 46) = true := by simp; omega
  generalize byteP s 6 = X at *
  clear HD h46
  have e2 := Blk.new w 62 #[.bool false, .int .i64 0, .int .i64 0, .int .i64 0, .int .i64 0]
  have hb := (Below.refl w.heap.size w).alloc (Nat.le_refl _) (.cells #[.bool false, .int .i64 0, .int .i64 0, .int .i64 0, .int .i64 0] 62)
  go_enter Try.func46, Try.ntmps46
  go_wp2_with fail
  generalize w.alloc (.cells #[.bool false, .int .i64 0, .int .i64 0, .int .i64 0, .int .i64 0] 62) = W at *
  refine (HH.out _).mono ?_
  rintro e w' ⟨rfl, rfl⟩
  have c0 : (W).cell? ⟨w.heap.size, 0, none⟩ = some (.bool false) := e2.cell 0
  have c1 : (W).cell? ⟨w.heap.size, 1, none⟩ = some (.int .i64 0) := e2.cell 1
  have c2 : (W).cell? ⟨w.heap.size, 2, none⟩ = some (.int .i64 0) := e2.cell 2
  have c3 : (W).cell? ⟨w.heap.size, 3, none⟩ = some (.int .i64 0) := e2.cell 3
  have c4 : (W).cell? ⟨w.heap.size, 4, none⟩ = some (.int .i64 0) := e2.cell 4
  have z0 := e2.frozen 0
  have z1 := e2.frozen 1
  have z2 := e2.frozen 2
  have z3 := e2.frozen 3
  have z4 := e2.frozen 4
  go_wp2_with fail
  have t2 := (((((e2.set_ 0 (.bool false)).set_ 1 (.int .i64 0)).set_ 2 (.int .i64 0)).set_ 3 (.int .i64 0)).set_ 4 (.int .i64 0))
  have tb := (((((hb.setCell (p := ⟨w.heap.size, 0, none⟩) (by simp) (.bool false)).setCell (p := ⟨w.heap.size, 1, none⟩) (by simp) (.int .i64 0)).setCell (p := ⟨w.heap.size, 2, none⟩) (by simp) (.int .i64 0)).setCell (p := ⟨w.heap.size, 3, none⟩) (by simp) (.int .i64 0)).setCell (p := ⟨w.heap.size, 4, none⟩) (by simp) (.int .i64 0))
  refine bodyPost_ret (rtk_results _ _ w.heap.size _ _ _ _ _ _ rfl rfl t2) rfl ⟨?_, tb⟩
  rw [HC.out, HE.out]
  rfl
set_option maxRecDepth 20000 in
set_option maxHeartbeats 4000000 in
theorem r_take7 (s : ByteArray) (w : World) (hs0 : s.size ≤ 100) (h7 : s.size = 7) (HD : digsB (s.extract 0 6) = true) (h46 : byteP s 6 = 46) : Calls Try.prog 46 #[.string s] w (Taken s w) := by
  have hbf : tkB s = false := by rw [tkB_ref s (by omega)]; unfold refB; rw [HD]; simp [h46, h7]
  have HC : Hid (takeC s = .agg #[.bool false, .int .i64 0, .int .i64 0, .int .i64 0, .int .i64 0]) := hid (by unfold takeC; rw [if_neg (fun h => by rw [hbf] at h; exact absurd h.2.1 (by decide))])
  have HE : Hid (takeE s = 3) := hid (by unfold takeE; rw [hbf]; rfl)
  clear hbf
  have he := empty_no s (by omega)
  have HH := hid fun w => r_digs (s.extract 0 6) w (by rw [ext_size s 0 6 (by omega)]; omega)
  rw [HD] at HH
  have p6 : 6 < s.size := by omega
  have p6c : (6 : Int) < (s.size : Int) := by omega
  have hx := at_is s 6 p6
  rw [h46] at hx
  clear HD h46
  have e2 := Blk.new w 62 #[.bool false, .int .i64 0, .int .i64 0, .int .i64 0, .int .i64 0]
  have hb := (Below.refl w.heap.size w).alloc (Nat.le_refl _) (.cells #[.bool false, .int .i64 0, .int .i64 0, .int .i64 0, .int .i64 0] 62)
  go_enter Try.func46, Try.ntmps46
  go_wp2_with fail
  generalize w.alloc (.cells #[.bool false, .int .i64 0, .int .i64 0, .int .i64 0, .int .i64 0] 62) = W at *
  refine (HH.out _).mono ?_
  rintro e w' ⟨rfl, rfl⟩
  have c0 : (W).cell? ⟨w.heap.size, 0, none⟩ = some (.bool false) := e2.cell 0
  have c1 : (W).cell? ⟨w.heap.size, 1, none⟩ = some (.int .i64 0) := e2.cell 1
  have c2 : (W).cell? ⟨w.heap.size, 2, none⟩ = some (.int .i64 0) := e2.cell 2
  have c3 : (W).cell? ⟨w.heap.size, 3, none⟩ = some (.int .i64 0) := e2.cell 3
  have c4 : (W).cell? ⟨w.heap.size, 4, none⟩ = some (.int .i64 0) := e2.cell 4
  have z0 := e2.frozen 0
  have z1 := e2.frozen 1
  have z2 := e2.frozen 2
  have z3 := e2.frozen 3
  have z4 := e2.frozen 4
  go_wp2_with fail
  have t2 := (((((e2.set_ 0 (.bool false)).set_ 1 (.int .i64 0)).set_ 2 (.int .i64 0)).set_ 3 (.int .i64 0)).set_ 4 (.int .i64 0))
  have tb := (((((hb.setCell (p := ⟨w.heap.size, 0, none⟩) (by simp) (.bool false)).setCell (p := ⟨w.heap.size, 1, none⟩) (by simp) (.int .i64 0)).setCell (p := ⟨w.heap.size, 2, none⟩) (by simp) (.int .i64 0)).setCell (p := ⟨w.heap.size, 3, none⟩) (by simp) (.int .i64 0)).setCell (p := ⟨w.heap.size, 4, none⟩) (by simp) (.int .i64 0))
  refine bodyPost_ret (rtk_results _ _ w.heap.size _ _ _ _ _ _ rfl rfl t2) rfl ⟨?_, tb⟩
  rw [HC.out, HE.out]
  rfl
set_option maxRecDepth 20000 in
set_option maxHeartbeats 4000000 in
theorem r_take10 (s : ByteArray) (w : World) (hs0 : s.size ≤ 100) (h10 : 9 < s.size) (HD : digsB (s.extract 0 6) = true) (h46 : byteP s 6 = 46) : Calls Try.prog 46 #[.string s] w (Taken s w) := by
  have hbf : tkB s = false := by rw [tkB_ref s (by omega)]; unfold refB; rw [HD]; simp [h46]; omega
  have HC : Hid (takeC s = .agg #[.bool false, .int .i64 0, .int .i64 0, .int .i64 0, .int .i64 0]) := hid (by unfold takeC; rw [if_neg (fun h => by rw [hbf] at h; exact absurd h.2.1 (by decide))])
  have HE : Hid (takeE s = 3) := hid (by unfold takeE; rw [hbf]; rfl)
  clear hbf
  have he := empty_no s (by omega)
  have HH := hid fun w => r_digs (s.extract 0 6) w (by rw [ext_size s 0 6 (by omega)]; omega)
  rw [HD] at HH
  have p6 : 6 < s.size := by omega
  have p6c : (6 : Int) < (s.size : Int) := by omega
  have hx := at_is s 6 p6
  rw [h46] at hx
  have d8 : decide ((s.size : Int) < 8) = false := by simp; omega
  have d9 : decide (9 < (s.size : Int)) = true := by simp; omega
  clear HD h46
  have e2 := Blk.new w 62 #[.bool false, .int .i64 0, .int .i64 0, .int .i64 0, .int .i64 0]
  have hb := (Below.refl w.heap.size w).alloc (Nat.le_refl _) (.cells #[.bool false, .int .i64 0, .int .i64 0, .int .i64 0, .int .i64 0] 62)
  go_enter Try.func46, Try.ntmps46
  go_wp2_with fail
  generalize w.alloc (.cells #[.bool false, .int .i64 0, .int .i64 0, .int .i64 0, .int .i64 0] 62) = W at *
  refine (HH.out _).mono ?_
  rintro e w' ⟨rfl, rfl⟩
  have c0 : (W).cell? ⟨w.heap.size, 0, none⟩ = some (.bool false) := e2.cell 0
  have c1 : (W).cell? ⟨w.heap.size, 1, none⟩ = some (.int .i64 0) := e2.cell 1
  have c2 : (W).cell? ⟨w.heap.size, 2, none⟩ = some (.int .i64 0) := e2.cell 2
  have c3 : (W).cell? ⟨w.heap.size, 3, none⟩ = some (.int .i64 0) := e2.cell 3
  have c4 : (W).cell? ⟨w.heap.size, 4, none⟩ = some (.int .i64 0) := e2.cell 4
  have z0 := e2.frozen 0
  have z1 := e2.frozen 1
  have z2 := e2.frozen 2
  have z3 := e2.frozen 3
  have z4 := e2.frozen 4
  go_wp2_with fail
  have t2 := (((((e2.set_ 0 (.bool false)).set_ 1 (.int .i64 0)).set_ 2 (.int .i64 0)).set_ 3 (.int .i64 0)).set_ 4 (.int .i64 0))
  have tb := (((((hb.setCell (p := ⟨w.heap.size, 0, none⟩) (by simp) (.bool false)).setCell (p := ⟨w.heap.size, 1, none⟩) (by simp) (.int .i64 0)).setCell (p := ⟨w.heap.size, 2, none⟩) (by simp) (.int .i64 0)).setCell (p := ⟨w.heap.size, 3, none⟩) (by simp) (.int .i64 0)).setCell (p := ⟨w.heap.size, 4, none⟩) (by simp) (.int .i64 0))
  refine bodyPost_ret (rtk_results _ _ w.heap.size _ _ _ _ _ _ rfl rfl t2) rfl ⟨?_, tb⟩
  rw [HC.out, HE.out]
  rfl
set_option maxRecDepth 20000 in
set_option maxHeartbeats 4000000 in
theorem r_takeD8 (s : ByteArray) (w : World) (hs0 : s.size ≤ 100) (hn : s.size = 8) (HD : digsB (s.extract 0 6) = true) (h46 : byteP s 6 = 46) (HD7 : digsB (s.extract 7 8) = false) : Calls Try.prog 46 #[.string s] w (Taken s w) := by
  have hbf : tkB s = false := by rw [tkB_ref s (by omega)]; unfold refB; rw [HD, hn, HD7]; simp [h46]
  have HC : Hid (takeC s = .agg #[.bool false, .int .i64 0, .int .i64 0, .int .i64 0, .int .i64 0]) := hid (by unfold takeC; rw [if_neg (fun h => by rw [hbf] at h; exact absurd h.2.1 (by decide))])
  have HE : Hid (takeE s = 3) := hid (by unfold takeE; rw [hbf]; rfl)
  clear hbf
  have he := empty_no s (by omega)
  have HH := hid fun w => r_digs (s.extract 0 6) w (by rw [ext_size s 0 6 (by omega)]; omega)
  rw [HD] at HH
  have HH7 := hid fun w => r_digs (s.extract 7 8) w (by rw [ext_size s 7 8 (by omega)]; omega)
  rw [HD7] at HH7
  have p6 : 6 < s.size := by omega
  have p6c : (6 : Int) < (s.size : Int) := by omega
  have hx := at_is s 6 p6
  rw [h46] at hx
  clear HD h46 HD7
  have e2 := Blk.new w 62 #[.bool false, .int .i64 0, .int .i64 0, .int .i64 0, .int .i64 0]
  have hb := (Below.refl w.heap.size w).alloc (Nat.le_refl _) (.cells #[.bool false, .int .i64 0, .int .i64 0, .int .i64 0, .int .i64 0] 62)
  go_enter Try.func46, Try.ntmps46
  go_wp2_with fail
  generalize w.alloc (.cells #[.bool false, .int .i64 0, .int .i64 0, .int .i64 0, .int .i64 0] 62) = W at *
  refine (HH.out _).mono ?_
  rintro e w' ⟨rfl, rfl⟩
  go_wp2_with fail
  refine (HH7.out _).mono ?_
  rintro e w' ⟨rfl, rfl⟩
  have c0 : (W).cell? ⟨w.heap.size, 0, none⟩ = some (.bool false) := e2.cell 0
  have c1 : (W).cell? ⟨w.heap.size, 1, none⟩ = some (.int .i64 0) := e2.cell 1
  have c2 : (W).cell? ⟨w.heap.size, 2, none⟩ = some (.int .i64 0) := e2.cell 2
  have c3 : (W).cell? ⟨w.heap.size, 3, none⟩ = some (.int .i64 0) := e2.cell 3
  have c4 : (W).cell? ⟨w.heap.size, 4, none⟩ = some (.int .i64 0) := e2.cell 4
  have z0 := e2.frozen 0
  have z1 := e2.frozen 1
  have z2 := e2.frozen 2
  have z3 := e2.frozen 3
  have z4 := e2.frozen 4
  go_wp2_with fail
  have t2 := (((((e2.set_ 0 (.bool false)).set_ 1 (.int .i64 0)).set_ 2 (.int .i64 0)).set_ 3 (.int .i64 0)).set_ 4 (.int .i64 0))
  have tb := (((((hb.setCell (p := ⟨w.heap.size, 0, none⟩) (by simp) (.bool false)).setCell (p := ⟨w.heap.size, 1, none⟩) (by simp) (.int .i64 0)).setCell (p := ⟨w.heap.size, 2, none⟩) (by simp) (.int .i64 0)).setCell (p := ⟨w.heap.size, 3, none⟩) (by simp) (.int .i64 0)).setCell (p := ⟨w.heap.size, 4, none⟩) (by simp) (.int .i64 0))
  refine bodyPost_ret (rtk_results _ _ w.heap.size _ _ _ _ _ _ rfl rfl t2) rfl ⟨?_, tb⟩
  rw [HC.out, HE.out]
  rfl
set_option maxRecDepth 20000 in
set_option maxHeartbeats 4000000 in
theorem r_takeD9 (s : ByteArray) (w : World) (hs0 : s.size ≤ 100) (hn : s.size = 9) (HD : digsB (s.extract 0 6) = true) (h46 : byteP s 6 = 46) (HD7 : digsB (s.extract 7 9) = false) : Calls Try.prog 46 #[.string s] w (Taken s w) := by
  have hbf : tkB s = false := by rw [tkB_ref s (by omega)]; unfold refB; rw [HD, hn, HD7]; simp [h46]
  have HC : Hid (takeC s = .agg #[.bool false, .int .i64 0, .int .i64 0, .int .i64 0, .int .i64 0]) := hid (by unfold takeC; rw [if_neg (fun h => by rw [hbf] at h; exact absurd h.2.1 (by decide))])
  have HE : Hid (takeE s = 3) := hid (by unfold takeE; rw [hbf]; rfl)
  clear hbf
  have he := empty_no s (by omega)
  have HH := hid fun w => r_digs (s.extract 0 6) w (by rw [ext_size s 0 6 (by omega)]; omega)
  rw [HD] at HH
  have HH7 := hid fun w => r_digs (s.extract 7 9) w (by rw [ext_size s 7 9 (by omega)]; omega)
  rw [HD7] at HH7
  have p6 : 6 < s.size := by omega
  have p6c : (6 : Int) < (s.size : Int) := by omega
  have hx := at_is s 6 p6
  rw [h46] at hx
  clear HD h46 HD7
  have e2 := Blk.new w 62 #[.bool false, .int .i64 0, .int .i64 0, .int .i64 0, .int .i64 0]
  have hb := (Below.refl w.heap.size w).alloc (Nat.le_refl _) (.cells #[.bool false, .int .i64 0, .int .i64 0, .int .i64 0, .int .i64 0] 62)
  go_enter Try.func46, Try.ntmps46
  go_wp2_with fail
  generalize w.alloc (.cells #[.bool false, .int .i64 0, .int .i64 0, .int .i64 0, .int .i64 0] 62) = W at *
  refine (HH.out _).mono ?_
  rintro e w' ⟨rfl, rfl⟩
  go_wp2_with fail
  refine (HH7.out _).mono ?_
  rintro e w' ⟨rfl, rfl⟩
  have c0 : (W).cell? ⟨w.heap.size, 0, none⟩ = some (.bool false) := e2.cell 0
  have c1 : (W).cell? ⟨w.heap.size, 1, none⟩ = some (.int .i64 0) := e2.cell 1
  have c2 : (W).cell? ⟨w.heap.size, 2, none⟩ = some (.int .i64 0) := e2.cell 2
  have c3 : (W).cell? ⟨w.heap.size, 3, none⟩ = some (.int .i64 0) := e2.cell 3
  have c4 : (W).cell? ⟨w.heap.size, 4, none⟩ = some (.int .i64 0) := e2.cell 4
  have z0 := e2.frozen 0
  have z1 := e2.frozen 1
  have z2 := e2.frozen 2
  have z3 := e2.frozen 3
  have z4 := e2.frozen 4
  go_wp2_with fail
  have t2 := (((((e2.set_ 0 (.bool false)).set_ 1 (.int .i64 0)).set_ 2 (.int .i64 0)).set_ 3 (.int .i64 0)).set_ 4 (.int .i64 0))
  have tb := (((((hb.setCell (p := ⟨w.heap.size, 0, none⟩) (by simp) (.bool false)).setCell (p := ⟨w.heap.size, 1, none⟩) (by simp) (.int .i64 0)).setCell (p := ⟨w.heap.size, 2, none⟩) (by simp) (.int .i64 0)).setCell (p := ⟨w.heap.size, 3, none⟩) (by simp) (.int .i64 0)).setCell (p := ⟨w.heap.size, 4, none⟩) (by simp) (.int .i64 0))
  refine bodyPost_ret (rtk_results _ _ w.heap.size _ _ _ _ _ _ rfl rfl t2) rfl ⟨?_, tb⟩
  rw [HC.out, HE.out]
  rfl
set_option maxRecDepth 20000 in
set_option maxHeartbeats 8000000 in
theorem r_takeG6 (s : ByteArray) (w : World) (hs0 : s.size ≤ 100) (hn : s.size = 6) (HD : digsB (s.extract 0 6) = true) : Calls Try.prog 46 #[.string s] w (Taken s w) := by
  have hbt : tkB s = true := by rw [tkB_ref s (by omega)]; unfold refB; rw [HD, hn]; simp
  have hbe : (behP (tailS s)).1 = 0 := by rw [beh_tail s (by omega), if_pos hn]
  have hk0 := tkH_is s (by omega) 0 (by omega)
  have hk1 := tkH_is s (by omega) 1 (by omega)
  have hk2 := tkH_is s (by omega) 2 (by omega)
  have q0 : pairV s = tkH s 0 := by rw [hk0]; rfl
  have q1 : pairV (s.extract 2 6) = tkH s 1 := by unfold pairV; rw [byteP_ext s 2 6 0 (by omega) (by omega), byteP_ext s 2 6 1 (by omega) (by omega), hk1]
  have q2 : pairV (s.extract 4 6) = tkH s 2 := by unfold pairV; rw [byteP_ext s 4 6 0 (by omega) (by omega), byteP_ext s 4 6 1 (by omega) (by omega), hk2]
  have HC0 : Hid (takeC s = if tkM s = true then .agg #[.bool true, .int .i64 (tkH s 0), .int .i64 (tkH s 1), .int .i64 (tkH s 2), .int .i64 (behP (tailS s)).1] else .agg #[.bool false, .int .i64 0, .int .i64 0, .int .i64 0, .int .i64 0]) := hid (by unfold takeC; rw [hbt]; simp [show s.size ≠ 0 by omega])
  have HE0 : Hid (takeE s = if tkM s = false then 5 else 0) := hid (by unfold takeE; rw [hbt]; rfl)
  have HM : Hid (tkM s = mayP true (tkH s 0) (tkH s 1) (tkH s 2) (behP (tailS s)).1) := hid (by unfold tkM; simp [show s.size ≠ 0 by omega])
  rw [hbe] at HC0 HM
  have HP0 := hid fun w => r_pair s w (by omega)
  have HP1 := hid fun w => r_pair (s.extract 2 6) w (by rw [ext_size s 2 6 (by omega)]; omega)
  have HP2 := hid fun w => r_pair (s.extract 4 6) w (by rw [ext_size s 4 6 (by omega)]; omega)
  rw [q0] at HP0
  rw [q1] at HP1
  rw [q2] at HP2
  have he := empty_no s (by omega)
  have HH := hid fun w => r_digs (s.extract 0 6) w (by rw [ext_size s 0 6 (by omega)]; omega)
  rw [HD] at HH
  clear hk0 hk1 hk2 q0 q1 q2 hbe hbt HD
  obtain ⟨v0, hv0⟩ : ∃ v, tkH s 0 = v := ⟨_, rfl⟩
  obtain ⟨v1, hv1⟩ : ∃ v, tkH s 1 = v := ⟨_, rfl⟩
  obtain ⟨v2, hv2⟩ : ∃ v, tkH s 2 = v := ⟨_, rfl⟩
  rw [hv0, hv1, hv2] at HC0 HM
  rw [hv0] at HP0
  rw [hv1] at HP1
  rw [hv2] at HP2
  clear hv0 hv1 hv2
  have HMY := hid fun w => r_May true v0 v1 v2 (0) w
  obtain ⟨my, hmy⟩ : ∃ v, mayP true v0 v1 v2 (0) = v := ⟨_, rfl⟩
  rw [hmy] at HM HMY
  clear hmy
  have e2 := Blk.new w 62 #[.bool false, .int .i64 0, .int .i64 0, .int .i64 0, .int .i64 0]
  have hb := (Below.refl w.heap.size w).alloc (Nat.le_refl _) (.cells #[.bool false, .int .i64 0, .int .i64 0, .int .i64 0, .int .i64 0] 62)
  go_enter Try.func46, Try.ntmps46
  go_wp2_with fail
  generalize w.alloc (.cells #[.bool false, .int .i64 0, .int .i64 0, .int .i64 0, .int .i64 0] 62) = W at *
  refine (HH.out _).mono ?_
  rintro e w' ⟨rfl, rfl⟩
  go_upto_region 5 with (fail)
  go_cut [4] from 44 to 52 (fun v4 wx => ∃ g : Nat, v4 = .pointer (some ⟨g, 0, none⟩) ∧ w.heap.size < g ∧ Blk wx g 62 #[.bool true, .int .i64 v0, .int .i64 v1, .int .i64 v2, .int .i64 0] ∧ Blk wx w.heap.size 62 #[.bool false, .int .i64 0, .int .i64 0, .int .i64 0, .int .i64 0] ∧ Below w.heap.size w wx)
  case first =>
    have hlt0 := e2.lt
    refine wp_region_noPanic ?_
    refine wp_region_held_drew (S := (fun w' : World => w'.cell? ⟨w.heap.size, 0, none⟩ = some (.bool false) ∧ w'.cell? ⟨w.heap.size, 1, none⟩ = some (.int .i64 0) ∧ w'.cell? ⟨w.heap.size, 2, none⟩ = some (.int .i64 0) ∧ w'.cell? ⟨w.heap.size, 3, none⟩ = some (.int .i64 0) ∧ w'.cell? ⟨w.heap.size, 4, none⟩ = some (.int .i64 0))) (by kernel_rfl) ⟨e2.cell 0, e2.cell 1, e2.cell 2, e2.cell 3, e2.cell 4⟩ (fun hHeld => ?_)
    refine (show wpAnyH _ _ _ _ _ 11 _ _ _ from ?_)
    try (simp only [Act.put, List.setIfInBounds_toArray, List.set_cons_zero, List.set_cons_succ])
    replace e2 := e2.drew
    replace hb := hb.drew
    generalize W.drew = W1 at *
    refine tk 0 hHeld ?_
    refine tk 2 hHeld ?_
    refine tk 3 hHeld ?_
    refine tk 5 hHeld ?_
    refine tk 6 hHeld ?_
    refine rd2 1 9 (fun K hK => ?hc2q1) (fun K hK => ?hc2q9)
    case hc2q1 =>
      go_simp
      refine (HP0.out _).mono ?_
      rintro e v3 ⟨rfl, bb⟩
      go_wp2_with fail
      replace e2 := e2.below bb e2.lt
      replace hb := below24 hb bb
      clear bb
      refine hK.out _ _ ⟨e2.cell 0, e2.cell 1, e2.cell 2, e2.cell 3, e2.cell 4⟩ (fun hHeld => ?_)
      clear hK K
      try (simp only [Act.put, List.setIfInBounds_toArray, List.set_cons_zero, List.set_cons_succ])
      refine rd2 4 9 (fun K hK => ?hc4q4) (fun K hK => ?hc4q9)
      case hc4q4 =>
        go_simp
        refine (HP1.out _).mono ?_
        rintro e v5 ⟨rfl, bb⟩
        go_wp2_with fail
        replace e2 := e2.below bb e2.lt
        replace hb := below24 hb bb
        clear bb
        refine hK.out _ _ ⟨e2.cell 0, e2.cell 1, e2.cell 2, e2.cell 3, e2.cell 4⟩ (fun hHeld => ?_)
        clear hK K
        try (simp only [Act.put, List.setIfInBounds_toArray, List.set_cons_zero, List.set_cons_succ])
        refine rd2 7 9 (fun K hK => ?hc6q7) (fun K hK => ?hc6q9)
        case hc6q7 =>
          go_simp
          refine (HP2.out _).mono ?_
          rintro e v7 ⟨rfl, bb⟩
          go_wp2_with fail
          replace e2 := e2.below bb e2.lt
          replace hb := below24 hb bb
          clear bb
          refine hK.out _ _ ⟨e2.cell 0, e2.cell 1, e2.cell 2, e2.cell 3, e2.cell 4⟩ (fun hHeld => ?_)
          clear hK K
          try (simp only [Act.put, List.setIfInBounds_toArray, List.set_cons_zero, List.set_cons_succ])
          refine tk 8 hHeld ?_
          refine rd1 9 (fun K hK => ?_)
          go_simp
          try go_wp2_with fail
          have lb9 := hb.size
          have l9e2 := e2.lt
          replace e2 := e2.alloc (.cells #[.bool false, .int .i64 0, .int .i64 0, .int .i64 0, .int .i64 0] 62)
          have n9 := Blk.new v7 62 #[.bool false, .int .i64 0, .int .i64 0, .int .i64 0, .int .i64 0]
          replace hb := hb.alloc hb.size (.cells #[.bool false, .int .i64 0, .int .i64 0, .int .i64 0, .int .i64 0] 62)
          generalize v7.alloc (.cells #[.bool false, .int .i64 0, .int .i64 0, .int .i64 0, .int .i64 0] 62) = v9 at *
          have le2 := e2.lt
          generalize v7.heap.size = g9 at *
          refine hK.out _ _ ⟨e2.cell 0, e2.cell 1, e2.cell 2, e2.cell 3, e2.cell 4⟩ (fun hHeld => ?_)
          clear hK K
          try (simp only [Act.put, List.setIfInBounds_toArray, List.set_cons_zero, List.set_cons_succ])
          refine rd1 10 (fun K hK => ?_)
          have c0 : v9.cell? ⟨g9, 0, none⟩ = some (.bool false) := n9.cell 0
          have z0 := n9.frozen 0
          have c1 : v9.cell? ⟨g9, 1, none⟩ = some (.int .i64 0) := n9.cell 1
          have z1 := n9.frozen 1
          have c2 : v9.cell? ⟨g9, 2, none⟩ = some (.int .i64 0) := n9.cell 2
          have z2 := n9.frozen 2
          have c3 : v9.cell? ⟨g9, 3, none⟩ = some (.int .i64 0) := n9.cell 3
          have z3 := n9.frozen 3
          have c4 : v9.cell? ⟨g9, 4, none⟩ = some (.int .i64 0) := n9.cell 4
          have z4 := n9.frozen 4
          go_simp
          try go_wp2_with fail
          replace e2 := (((((e2.far (p := ⟨g9, 0, none⟩) (by dsimp only; omega) (.bool true)).far (p := ⟨g9, 1, none⟩) (by dsimp only; omega) (.int .i64 v0)).far (p := ⟨g9, 2, none⟩) (by dsimp only; omega) (.int .i64 v1)).far (p := ⟨g9, 3, none⟩) (by dsimp only; omega) (.int .i64 v2)).far (p := ⟨g9, 4, none⟩) (by dsimp only; omega) (.int .i64 0))
          replace n9 := (((((n9.set_ 0 (.bool true)).set_ 1 (.int .i64 v0)).set_ 2 (.int .i64 v1)).set_ 3 (.int .i64 v2)).set_ 4 (.int .i64 0))
          replace hb := (((((hb.setCell (p := ⟨g9, 0, none⟩) (by dsimp only; omega) (.bool true)).setCell (p := ⟨g9, 1, none⟩) (by dsimp only; omega) (.int .i64 v0)).setCell (p := ⟨g9, 2, none⟩) (by dsimp only; omega) (.int .i64 v1)).setCell (p := ⟨g9, 3, none⟩) (by dsimp only; omega) (.int .i64 v2)).setCell (p := ⟨g9, 4, none⟩) (by dsimp only; omega) (.int .i64 0))
          clear c0 z0 c1 z1 c2 z2 c3 z3 c4 z4
          generalize (((((v9.setCell ⟨g9, 0, none⟩ (.bool true)).setCell ⟨g9, 1, none⟩ (.int .i64 v0)).setCell ⟨g9, 2, none⟩ (.int .i64 v1)).setCell ⟨g9, 3, none⟩ (.int .i64 v2)).setCell ⟨g9, 4, none⟩ (.int .i64 0)) = v11 at *
          refine hK.out _ _ ⟨e2.cell 0, e2.cell 1, e2.cell 2, e2.cell 3, e2.cell 4⟩ (fun hHeld => ?_)
          clear hK K
          try (simp only [Act.put, List.setIfInBounds_toArray, List.set_cons_zero, List.set_cons_succ])
          refine wpAnyH_done ?hru12 ?hqu12 _
          case hru12 => kernel_rfl
          refine NoPanic.normal ?_
          try go_wp2_with fail
          go_meet
          exact ⟨g9, rfl, by omega, n9, e2, hb⟩
        case hc6q9 =>
          go_simp
          try go_wp2_with fail
          have lb13 := hb.size
          have l13e2 := e2.lt
          replace e2 := e2.alloc (.cells #[.bool false, .int .i64 0, .int .i64 0, .int .i64 0, .int .i64 0] 62)
          have n13 := Blk.new v5 62 #[.bool false, .int .i64 0, .int .i64 0, .int .i64 0, .int .i64 0]
          replace hb := hb.alloc hb.size (.cells #[.bool false, .int .i64 0, .int .i64 0, .int .i64 0, .int .i64 0] 62)
          generalize v5.alloc (.cells #[.bool false, .int .i64 0, .int .i64 0, .int .i64 0, .int .i64 0] 62) = v13 at *
          have le2 := e2.lt
          generalize v5.heap.size = g13 at *
          refine hK.out _ _ ⟨e2.cell 0, e2.cell 1, e2.cell 2, e2.cell 3, e2.cell 4⟩ (fun hHeld => ?_)
          clear hK K
          try (simp only [Act.put, List.setIfInBounds_toArray, List.set_cons_zero, List.set_cons_succ])
          refine rd1 7 (fun K hK => ?_)
          go_simp
          refine (HP2.out _).mono ?_
          rintro e v15 ⟨rfl, bb⟩
          go_wp2_with fail
          replace e2 := e2.below bb e2.lt
          replace n13 := n13.below bb n13.lt
          replace hb := below24 hb bb
          clear bb
          refine hK.out _ _ ⟨e2.cell 0, e2.cell 1, e2.cell 2, e2.cell 3, e2.cell 4⟩ (fun hHeld => ?_)
          clear hK K
          try (simp only [Act.put, List.setIfInBounds_toArray, List.set_cons_zero, List.set_cons_succ])
          refine tk 8 hHeld ?_
          refine rd1 10 (fun K hK => ?_)
          have c0 : v15.cell? ⟨g13, 0, none⟩ = some (.bool false) := n13.cell 0
          have z0 := n13.frozen 0
          have c1 : v15.cell? ⟨g13, 1, none⟩ = some (.int .i64 0) := n13.cell 1
          have z1 := n13.frozen 1
          have c2 : v15.cell? ⟨g13, 2, none⟩ = some (.int .i64 0) := n13.cell 2
          have z2 := n13.frozen 2
          have c3 : v15.cell? ⟨g13, 3, none⟩ = some (.int .i64 0) := n13.cell 3
          have z3 := n13.frozen 3
          have c4 : v15.cell? ⟨g13, 4, none⟩ = some (.int .i64 0) := n13.cell 4
          have z4 := n13.frozen 4
          go_simp
          try go_wp2_with fail
          replace e2 := (((((e2.far (p := ⟨g13, 0, none⟩) (by dsimp only; omega) (.bool true)).far (p := ⟨g13, 1, none⟩) (by dsimp only; omega) (.int .i64 v0)).far (p := ⟨g13, 2, none⟩) (by dsimp only; omega) (.int .i64 v1)).far (p := ⟨g13, 3, none⟩) (by dsimp only; omega) (.int .i64 v2)).far (p := ⟨g13, 4, none⟩) (by dsimp only; omega) (.int .i64 0))
          replace n13 := (((((n13.set_ 0 (.bool true)).set_ 1 (.int .i64 v0)).set_ 2 (.int .i64 v1)).set_ 3 (.int .i64 v2)).set_ 4 (.int .i64 0))
          replace hb := (((((hb.setCell (p := ⟨g13, 0, none⟩) (by dsimp only; omega) (.bool true)).setCell (p := ⟨g13, 1, none⟩) (by dsimp only; omega) (.int .i64 v0)).setCell (p := ⟨g13, 2, none⟩) (by dsimp only; omega) (.int .i64 v1)).setCell (p := ⟨g13, 3, none⟩) (by dsimp only; omega) (.int .i64 v2)).setCell (p := ⟨g13, 4, none⟩) (by dsimp only; omega) (.int .i64 0))
          clear c0 z0 c1 z1 c2 z2 c3 z3 c4 z4
          generalize (((((v15.setCell ⟨g13, 0, none⟩ (.bool true)).setCell ⟨g13, 1, none⟩ (.int .i64 v0)).setCell ⟨g13, 2, none⟩ (.int .i64 v1)).setCell ⟨g13, 3, none⟩ (.int .i64 v2)).setCell ⟨g13, 4, none⟩ (.int .i64 0)) = v17 at *
          refine hK.out _ _ ⟨e2.cell 0, e2.cell 1, e2.cell 2, e2.cell 3, e2.cell 4⟩ (fun hHeld => ?_)
          clear hK K
          try (simp only [Act.put, List.setIfInBounds_toArray, List.set_cons_zero, List.set_cons_succ])
          refine wpAnyH_done ?hru18 ?hqu18 _
          case hru18 => kernel_rfl
          refine NoPanic.normal ?_
          try go_wp2_with fail
          go_meet
          exact ⟨g13, rfl, by omega, n13, e2, hb⟩
      case hc4q9 =>
        go_simp
        try go_wp2_with fail
        have lb19 := hb.size
        have l19e2 := e2.lt
        replace e2 := e2.alloc (.cells #[.bool false, .int .i64 0, .int .i64 0, .int .i64 0, .int .i64 0] 62)
        have n19 := Blk.new v3 62 #[.bool false, .int .i64 0, .int .i64 0, .int .i64 0, .int .i64 0]
        replace hb := hb.alloc hb.size (.cells #[.bool false, .int .i64 0, .int .i64 0, .int .i64 0, .int .i64 0] 62)
        generalize v3.alloc (.cells #[.bool false, .int .i64 0, .int .i64 0, .int .i64 0, .int .i64 0] 62) = v19 at *
        have le2 := e2.lt
        generalize v3.heap.size = g19 at *
        refine hK.out _ _ ⟨e2.cell 0, e2.cell 1, e2.cell 2, e2.cell 3, e2.cell 4⟩ (fun hHeld => ?_)
        clear hK K
        try (simp only [Act.put, List.setIfInBounds_toArray, List.set_cons_zero, List.set_cons_succ])
        refine rd1 4 (fun K hK => ?_)
        go_simp
        refine (HP1.out _).mono ?_
        rintro e v21 ⟨rfl, bb⟩
        go_wp2_with fail
        replace e2 := e2.below bb e2.lt
        replace n19 := n19.below bb n19.lt
        replace hb := below24 hb bb
        clear bb
        refine hK.out _ _ ⟨e2.cell 0, e2.cell 1, e2.cell 2, e2.cell 3, e2.cell 4⟩ (fun hHeld => ?_)
        clear hK K
        try (simp only [Act.put, List.setIfInBounds_toArray, List.set_cons_zero, List.set_cons_succ])
        refine rd1 7 (fun K hK => ?_)
        go_simp
        refine (HP2.out _).mono ?_
        rintro e v23 ⟨rfl, bb⟩
        go_wp2_with fail
        replace e2 := e2.below bb e2.lt
        replace n19 := n19.below bb n19.lt
        replace hb := below24 hb bb
        clear bb
        refine hK.out _ _ ⟨e2.cell 0, e2.cell 1, e2.cell 2, e2.cell 3, e2.cell 4⟩ (fun hHeld => ?_)
        clear hK K
        try (simp only [Act.put, List.setIfInBounds_toArray, List.set_cons_zero, List.set_cons_succ])
        refine tk 8 hHeld ?_
        refine rd1 10 (fun K hK => ?_)
        have c0 : v23.cell? ⟨g19, 0, none⟩ = some (.bool false) := n19.cell 0
        have z0 := n19.frozen 0
        have c1 : v23.cell? ⟨g19, 1, none⟩ = some (.int .i64 0) := n19.cell 1
        have z1 := n19.frozen 1
        have c2 : v23.cell? ⟨g19, 2, none⟩ = some (.int .i64 0) := n19.cell 2
        have z2 := n19.frozen 2
        have c3 : v23.cell? ⟨g19, 3, none⟩ = some (.int .i64 0) := n19.cell 3
        have z3 := n19.frozen 3
        have c4 : v23.cell? ⟨g19, 4, none⟩ = some (.int .i64 0) := n19.cell 4
        have z4 := n19.frozen 4
        go_simp
        try go_wp2_with fail
        replace e2 := (((((e2.far (p := ⟨g19, 0, none⟩) (by dsimp only; omega) (.bool true)).far (p := ⟨g19, 1, none⟩) (by dsimp only; omega) (.int .i64 v0)).far (p := ⟨g19, 2, none⟩) (by dsimp only; omega) (.int .i64 v1)).far (p := ⟨g19, 3, none⟩) (by dsimp only; omega) (.int .i64 v2)).far (p := ⟨g19, 4, none⟩) (by dsimp only; omega) (.int .i64 0))
        replace n19 := (((((n19.set_ 0 (.bool true)).set_ 1 (.int .i64 v0)).set_ 2 (.int .i64 v1)).set_ 3 (.int .i64 v2)).set_ 4 (.int .i64 0))
        replace hb := (((((hb.setCell (p := ⟨g19, 0, none⟩) (by dsimp only; omega) (.bool true)).setCell (p := ⟨g19, 1, none⟩) (by dsimp only; omega) (.int .i64 v0)).setCell (p := ⟨g19, 2, none⟩) (by dsimp only; omega) (.int .i64 v1)).setCell (p := ⟨g19, 3, none⟩) (by dsimp only; omega) (.int .i64 v2)).setCell (p := ⟨g19, 4, none⟩) (by dsimp only; omega) (.int .i64 0))
        clear c0 z0 c1 z1 c2 z2 c3 z3 c4 z4
        generalize (((((v23.setCell ⟨g19, 0, none⟩ (.bool true)).setCell ⟨g19, 1, none⟩ (.int .i64 v0)).setCell ⟨g19, 2, none⟩ (.int .i64 v1)).setCell ⟨g19, 3, none⟩ (.int .i64 v2)).setCell ⟨g19, 4, none⟩ (.int .i64 0)) = v25 at *
        refine hK.out _ _ ⟨e2.cell 0, e2.cell 1, e2.cell 2, e2.cell 3, e2.cell 4⟩ (fun hHeld => ?_)
        clear hK K
        try (simp only [Act.put, List.setIfInBounds_toArray, List.set_cons_zero, List.set_cons_succ])
        refine wpAnyH_done ?hru26 ?hqu26 _
        case hru26 => kernel_rfl
        refine NoPanic.normal ?_
        try go_wp2_with fail
        go_meet
        exact ⟨g19, rfl, by omega, n19, e2, hb⟩
    case hc2q9 =>
      go_simp
      try go_wp2_with fail
      have lb27 := hb.size
      have l27e2 := e2.lt
      replace e2 := e2.alloc (.cells #[.bool false, .int .i64 0, .int .i64 0, .int .i64 0, .int .i64 0] 62)
      have n27 := Blk.new W1 62 #[.bool false, .int .i64 0, .int .i64 0, .int .i64 0, .int .i64 0]
      replace hb := hb.alloc hb.size (.cells #[.bool false, .int .i64 0, .int .i64 0, .int .i64 0, .int .i64 0] 62)
      generalize W1.alloc (.cells #[.bool false, .int .i64 0, .int .i64 0, .int .i64 0, .int .i64 0] 62) = v27 at *
      have le2 := e2.lt
      generalize W1.heap.size = g27 at *
      refine hK.out _ _ ⟨e2.cell 0, e2.cell 1, e2.cell 2, e2.cell 3, e2.cell 4⟩ (fun hHeld => ?_)
      clear hK K
      try (simp only [Act.put, List.setIfInBounds_toArray, List.set_cons_zero, List.set_cons_succ])
      refine rd1 1 (fun K hK => ?_)
      go_simp
      refine (HP0.out _).mono ?_
      rintro e v29 ⟨rfl, bb⟩
      go_wp2_with fail
      replace e2 := e2.below bb e2.lt
      replace n27 := n27.below bb n27.lt
      replace hb := below24 hb bb
      clear bb
      refine hK.out _ _ ⟨e2.cell 0, e2.cell 1, e2.cell 2, e2.cell 3, e2.cell 4⟩ (fun hHeld => ?_)
      clear hK K
      try (simp only [Act.put, List.setIfInBounds_toArray, List.set_cons_zero, List.set_cons_succ])
      refine rd1 4 (fun K hK => ?_)
      go_simp
      refine (HP1.out _).mono ?_
      rintro e v31 ⟨rfl, bb⟩
      go_wp2_with fail
      replace e2 := e2.below bb e2.lt
      replace n27 := n27.below bb n27.lt
      replace hb := below24 hb bb
      clear bb
      refine hK.out _ _ ⟨e2.cell 0, e2.cell 1, e2.cell 2, e2.cell 3, e2.cell 4⟩ (fun hHeld => ?_)
      clear hK K
      try (simp only [Act.put, List.setIfInBounds_toArray, List.set_cons_zero, List.set_cons_succ])
      refine rd1 7 (fun K hK => ?_)
      go_simp
      refine (HP2.out _).mono ?_
      rintro e v33 ⟨rfl, bb⟩
      go_wp2_with fail
      replace e2 := e2.below bb e2.lt
      replace n27 := n27.below bb n27.lt
      replace hb := below24 hb bb
      clear bb
      refine hK.out _ _ ⟨e2.cell 0, e2.cell 1, e2.cell 2, e2.cell 3, e2.cell 4⟩ (fun hHeld => ?_)
      clear hK K
      try (simp only [Act.put, List.setIfInBounds_toArray, List.set_cons_zero, List.set_cons_succ])
      refine tk 8 hHeld ?_
      refine rd1 10 (fun K hK => ?_)
      have c0 : v33.cell? ⟨g27, 0, none⟩ = some (.bool false) := n27.cell 0
      have z0 := n27.frozen 0
      have c1 : v33.cell? ⟨g27, 1, none⟩ = some (.int .i64 0) := n27.cell 1
      have z1 := n27.frozen 1
      have c2 : v33.cell? ⟨g27, 2, none⟩ = some (.int .i64 0) := n27.cell 2
      have z2 := n27.frozen 2
      have c3 : v33.cell? ⟨g27, 3, none⟩ = some (.int .i64 0) := n27.cell 3
      have z3 := n27.frozen 3
      have c4 : v33.cell? ⟨g27, 4, none⟩ = some (.int .i64 0) := n27.cell 4
      have z4 := n27.frozen 4
      go_simp
      try go_wp2_with fail
      replace e2 := (((((e2.far (p := ⟨g27, 0, none⟩) (by dsimp only; omega) (.bool true)).far (p := ⟨g27, 1, none⟩) (by dsimp only; omega) (.int .i64 v0)).far (p := ⟨g27, 2, none⟩) (by dsimp only; omega) (.int .i64 v1)).far (p := ⟨g27, 3, none⟩) (by dsimp only; omega) (.int .i64 v2)).far (p := ⟨g27, 4, none⟩) (by dsimp only; omega) (.int .i64 0))
      replace n27 := (((((n27.set_ 0 (.bool true)).set_ 1 (.int .i64 v0)).set_ 2 (.int .i64 v1)).set_ 3 (.int .i64 v2)).set_ 4 (.int .i64 0))
      replace hb := (((((hb.setCell (p := ⟨g27, 0, none⟩) (by dsimp only; omega) (.bool true)).setCell (p := ⟨g27, 1, none⟩) (by dsimp only; omega) (.int .i64 v0)).setCell (p := ⟨g27, 2, none⟩) (by dsimp only; omega) (.int .i64 v1)).setCell (p := ⟨g27, 3, none⟩) (by dsimp only; omega) (.int .i64 v2)).setCell (p := ⟨g27, 4, none⟩) (by dsimp only; omega) (.int .i64 0))
      clear c0 z0 c1 z1 c2 z2 c3 z3 c4 z4
      generalize (((((v33.setCell ⟨g27, 0, none⟩ (.bool true)).setCell ⟨g27, 1, none⟩ (.int .i64 v0)).setCell ⟨g27, 2, none⟩ (.int .i64 v1)).setCell ⟨g27, 3, none⟩ (.int .i64 v2)).setCell ⟨g27, 4, none⟩ (.int .i64 0)) = v35 at *
      refine hK.out _ _ ⟨e2.cell 0, e2.cell 1, e2.cell 2, e2.cell 3, e2.cell 4⟩ (fun hHeld => ?_)
      clear hK K
      try (simp only [Act.put, List.setIfInBounds_toArray, List.set_cons_zero, List.set_cons_succ])
      refine wpAnyH_done ?hru36 ?hqu36 _
      case hru36 => kernel_rfl
      refine NoPanic.normal ?_
      try go_wp2_with fail
      go_meet
      exact ⟨g27, rfl, by omega, n27, e2, hb⟩
  case rest =>
    clear e2 hb
    obtain ⟨g, rfl, hlg, e4, e2, hb⟩ := hcut
    have k0 : (wc).cell? ⟨g, 0, none⟩ = some (.bool true) := e4.cell 0
    have k1 : (wc).cell? ⟨g, 1, none⟩ = some (.int .i64 v0) := e4.cell 1
    have k2 : (wc).cell? ⟨g, 2, none⟩ = some (.int .i64 v1) := e4.cell 2
    have k3 : (wc).cell? ⟨g, 3, none⟩ = some (.int .i64 v2) := e4.cell 3
    have k4 : (wc).cell? ⟨g, 4, none⟩ = some (.int .i64 (0)) := e4.cell 4
    go_wp2_with fail
    clear k0 k1 k2 k3 k4
    refine (HMY.out _).mono ?_
    rintro e w6 ⟨rfl, b6⟩
    replace e4 := e4.below b6 e4.lt
    replace e2 := e2.below b6 e2.lt
    replace hb := below24 hb b6
    cases my
    · have HC : Hid (takeC s = .agg #[.bool false, .int .i64 0, .int .i64 0, .int .i64 0, .int .i64 0]) := hid (by rw [HC0.out, HM.out, if_neg (by simp)])
      have HE : Hid (takeE s = 5) := hid (by rw [HE0.out, HM.out]; rfl)
      go_upto_region 11 with (fail)
      have c0 : (w6).cell? ⟨w.heap.size, 0, none⟩ = some (.bool false) := e2.cell 0
      have c1 : (w6).cell? ⟨w.heap.size, 1, none⟩ = some (.int .i64 0) := e2.cell 1
      have c2 : (w6).cell? ⟨w.heap.size, 2, none⟩ = some (.int .i64 0) := e2.cell 2
      have c3 : (w6).cell? ⟨w.heap.size, 3, none⟩ = some (.int .i64 0) := e2.cell 3
      have c4 : (w6).cell? ⟨w.heap.size, 4, none⟩ = some (.int .i64 0) := e2.cell 4
      have z0 := e2.frozen 0
      have z1 := e2.frozen 1
      have z2 := e2.frozen 2
      have z3 := e2.frozen 3
      have z4 := e2.frozen 4
      go_wp2_with fail
      have t2 := (((((e2.set_ 0 (.bool false)).set_ 1 (.int .i64 0)).set_ 2 (.int .i64 0)).set_ 3 (.int .i64 0)).set_ 4 (.int .i64 0))
      have tb := (((((hb.setCell (p := ⟨w.heap.size, 0, none⟩) (by simp) (.bool false)).setCell (p := ⟨w.heap.size, 1, none⟩) (by simp) (.int .i64 0)).setCell (p := ⟨w.heap.size, 2, none⟩) (by simp) (.int .i64 0)).setCell (p := ⟨w.heap.size, 3, none⟩) (by simp) (.int .i64 0)).setCell (p := ⟨w.heap.size, 4, none⟩) (by simp) (.int .i64 0))
      refine bodyPost_ret (rtk_results _ _ w.heap.size _ _ _ _ _ _ rfl rfl t2) rfl ⟨?_, tb⟩
      rw [HC.out, HE.out]
      rfl
    · have HC : Hid (takeC s = .agg #[.bool true, .int .i64 v0, .int .i64 v1, .int .i64 v2, .int .i64 (0)]) := hid (by rw [HC0.out, HM.out, if_pos rfl])
      have HE : Hid (takeE s = 0) := hid (by rw [HE0.out, HM.out]; rfl)
      go_upto_region 12 with (fail)
      have k0 : (w6).cell? ⟨g, 0, none⟩ = some (.bool true) := e4.cell 0
      have k1 : (w6).cell? ⟨g, 1, none⟩ = some (.int .i64 v0) := e4.cell 1
      have k2 : (w6).cell? ⟨g, 2, none⟩ = some (.int .i64 v1) := e4.cell 2
      have k3 : (w6).cell? ⟨g, 3, none⟩ = some (.int .i64 v2) := e4.cell 3
      have k4 : (w6).cell? ⟨g, 4, none⟩ = some (.int .i64 (0)) := e4.cell 4
      have c0 : (w6).cell? ⟨w.heap.size, 0, none⟩ = some (.bool false) := e2.cell 0
      have c1 : (w6).cell? ⟨w.heap.size, 1, none⟩ = some (.int .i64 0) := e2.cell 1
      have c2 : (w6).cell? ⟨w.heap.size, 2, none⟩ = some (.int .i64 0) := e2.cell 2
      have c3 : (w6).cell? ⟨w.heap.size, 3, none⟩ = some (.int .i64 0) := e2.cell 3
      have c4 : (w6).cell? ⟨w.heap.size, 4, none⟩ = some (.int .i64 0) := e2.cell 4
      have z0 := e2.frozen 0
      have z1 := e2.frozen 1
      have z2 := e2.frozen 2
      have z3 := e2.frozen 3
      have z4 := e2.frozen 4
      go_wp2_with fail
      have t2 := (((((e2.set_ 0 (.bool true)).set_ 1 (.int .i64 v0)).set_ 2 (.int .i64 v1)).set_ 3 (.int .i64 v2)).set_ 4 (.int .i64 (0)))
      have tb := (((((hb.setCell (p := ⟨w.heap.size, 0, none⟩) (by simp) (.bool true)).setCell (p := ⟨w.heap.size, 1, none⟩) (by simp) (.int .i64 v0)).setCell (p := ⟨w.heap.size, 2, none⟩) (by simp) (.int .i64 v1)).setCell (p := ⟨w.heap.size, 3, none⟩) (by simp) (.int .i64 v2)).setCell (p := ⟨w.heap.size, 4, none⟩) (by simp) (.int .i64 (0)))
      refine bodyPost_ret (rtk_results _ _ w.heap.size _ _ _ _ _ _ rfl rfl t2) rfl ⟨?_, tb⟩
      rw [HC.out, HE.out]
      rfl
set_option maxRecDepth 20000 in
set_option maxHeartbeats 8000000 in
theorem r_takeG8 (s : ByteArray) (w : World) (hs0 : s.size ≤ 100) (hn : s.size = 8) (HD : digsB (s.extract 0 6) = true) (h46 : byteP s 6 = 46) (HD7 : digsB (s.extract 7 8) = true) : Calls Try.prog 46 #[.string s] w (Taken s w) := by
  have hbt : tkB s = true := by rw [tkB_ref s (by omega)]; unfold refB; rw [HD, hn, HD7]; simp [h46]
  have hbe : (behP (tailS s)).1 = 10 * digP (byteP s 7) := by rw [beh_tail s (by omega), if_neg (by omega), if_pos ⟨h46, .inl hn⟩]; simp [hn]
  have hk0 := tkH_is s (by omega) 0 (by omega)
  have hk1 := tkH_is s (by omega) 1 (by omega)
  have hk2 := tkH_is s (by omega) 2 (by omega)
  have q0 : pairV s = tkH s 0 := by rw [hk0]; rfl
  have q1 : pairV (s.extract 2 8) = tkH s 1 := by unfold pairV; rw [byteP_ext s 2 8 0 (by omega) (by omega), byteP_ext s 2 8 1 (by omega) (by omega), hk1]
  have q2 : pairV (s.extract 4 8) = tkH s 2 := by unfold pairV; rw [byteP_ext s 4 8 0 (by omega) (by omega), byteP_ext s 4 8 1 (by omega) (by omega), hk2]
  have HC0 : Hid (takeC s = if tkM s = true then .agg #[.bool true, .int .i64 (tkH s 0), .int .i64 (tkH s 1), .int .i64 (tkH s 2), .int .i64 (behP (tailS s)).1] else .agg #[.bool false, .int .i64 0, .int .i64 0, .int .i64 0, .int .i64 0]) := hid (by unfold takeC; rw [hbt]; simp [show s.size ≠ 0 by omega])
  have HE0 : Hid (takeE s = if tkM s = false then 5 else 0) := hid (by unfold takeE; rw [hbt]; rfl)
  have HM : Hid (tkM s = mayP true (tkH s 0) (tkH s 1) (tkH s 2) (behP (tailS s)).1) := hid (by unfold tkM; simp [show s.size ≠ 0 by omega])
  rw [hbe] at HC0 HM
  have HP0 := hid fun w => r_pair s w (by omega)
  have HP1 := hid fun w => r_pair (s.extract 2 8) w (by rw [ext_size s 2 8 (by omega)]; omega)
  have HP2 := hid fun w => r_pair (s.extract 4 8) w (by rw [ext_size s 4 8 (by omega)]; omega)
  rw [q0] at HP0
  rw [q1] at HP1
  rw [q2] at HP2
  have he := empty_no s (by omega)
  have HH := hid fun w => r_digs (s.extract 0 6) w (by rw [ext_size s 0 6 (by omega)]; omega)
  rw [HD] at HH
  have HH7 := hid fun w => r_digs (s.extract 7 8) w (by rw [ext_size s 7 8 (by omega)]; omega)
  rw [HD7] at HH7
  have p6 : 6 < s.size := by omega
  have p6c : (6 : Int) < (s.size : Int) := by omega
  have hx := at_is s 6 p6
  rw [h46] at hx
  have p7 : 7 < s.size := by omega
  have hx7 := at_is s 7 p7
  have bd7 := digP_bd (byteP s 7)
  have e7 : IntKind.u8.wrap ((byteP s 7 : Int) - 48) = digP (byteP s 7) := rfl
  generalize digP (byteP s 7) = D7 at *
  generalize byteP s 7 = X7 at *
  have u7 : IntKind.i64.wrap D7 = D7 := IntWalk.i64_in _ (by omega)
  have u7b : IntKind.i64.wrap (10 * D7) = 10 * D7 := IntWalk.i64_in _ (by omega)
  clear hk0 hk1 hk2 q0 q1 q2 hbe hbt HD h46 HD7
  obtain ⟨v0, hv0⟩ : ∃ v, tkH s 0 = v := ⟨_, rfl⟩
  obtain ⟨v1, hv1⟩ : ∃ v, tkH s 1 = v := ⟨_, rfl⟩
  obtain ⟨v2, hv2⟩ : ∃ v, tkH s 2 = v := ⟨_, rfl⟩
  rw [hv0, hv1, hv2] at HC0 HM
  rw [hv0] at HP0
  rw [hv1] at HP1
  rw [hv2] at HP2
  clear hv0 hv1 hv2
  have HMY := hid fun w => r_May true v0 v1 v2 (10 * D7) w
  obtain ⟨my, hmy⟩ : ∃ v, mayP true v0 v1 v2 (10 * D7) = v := ⟨_, rfl⟩
  rw [hmy] at HM HMY
  clear hmy
  have e2 := Blk.new w 62 #[.bool false, .int .i64 0, .int .i64 0, .int .i64 0, .int .i64 0]
  have hb := (Below.refl w.heap.size w).alloc (Nat.le_refl _) (.cells #[.bool false, .int .i64 0, .int .i64 0, .int .i64 0, .int .i64 0] 62)
  go_enter Try.func46, Try.ntmps46
  go_wp2_with fail
  generalize w.alloc (.cells #[.bool false, .int .i64 0, .int .i64 0, .int .i64 0, .int .i64 0] 62) = W at *
  refine (HH.out _).mono ?_
  rintro e w' ⟨rfl, rfl⟩
  go_wp2_with fail
  refine (HH7.out _).mono ?_
  rintro e w' ⟨rfl, rfl⟩
  go_upto_region 5 with (fail)
  go_cut [4] from 44 to 52 (fun v4 wx => ∃ g : Nat, v4 = .pointer (some ⟨g, 0, none⟩) ∧ w.heap.size < g ∧ Blk wx g 62 #[.bool true, .int .i64 v0, .int .i64 v1, .int .i64 v2, .int .i64 0] ∧ Blk wx w.heap.size 62 #[.bool false, .int .i64 0, .int .i64 0, .int .i64 0, .int .i64 0] ∧ Below w.heap.size w wx)
  case first =>
    have hlt0 := e2.lt
    refine wp_region_noPanic ?_
    refine wp_region_held_drew (S := (fun w' : World => w'.cell? ⟨w.heap.size, 0, none⟩ = some (.bool false) ∧ w'.cell? ⟨w.heap.size, 1, none⟩ = some (.int .i64 0) ∧ w'.cell? ⟨w.heap.size, 2, none⟩ = some (.int .i64 0) ∧ w'.cell? ⟨w.heap.size, 3, none⟩ = some (.int .i64 0) ∧ w'.cell? ⟨w.heap.size, 4, none⟩ = some (.int .i64 0))) (by kernel_rfl) ⟨e2.cell 0, e2.cell 1, e2.cell 2, e2.cell 3, e2.cell 4⟩ (fun hHeld => ?_)
    refine (show wpAnyH _ _ _ _ _ 11 _ _ _ from ?_)
    try (simp only [Act.put, List.setIfInBounds_toArray, List.set_cons_zero, List.set_cons_succ])
    replace e2 := e2.drew
    replace hb := hb.drew
    generalize W.drew = W37 at *
    refine tk 0 hHeld ?_
    refine tk 2 hHeld ?_
    refine tk 3 hHeld ?_
    refine tk 5 hHeld ?_
    refine tk 6 hHeld ?_
    refine rd2 1 9 (fun K hK => ?hc38q1) (fun K hK => ?hc38q9)
    case hc38q1 =>
      go_simp
      refine (HP0.out _).mono ?_
      rintro e v39 ⟨rfl, bb⟩
      go_wp2_with fail
      replace e2 := e2.below bb e2.lt
      replace hb := below24 hb bb
      clear bb
      refine hK.out _ _ ⟨e2.cell 0, e2.cell 1, e2.cell 2, e2.cell 3, e2.cell 4⟩ (fun hHeld => ?_)
      clear hK K
      try (simp only [Act.put, List.setIfInBounds_toArray, List.set_cons_zero, List.set_cons_succ])
      refine rd2 4 9 (fun K hK => ?hc40q4) (fun K hK => ?hc40q9)
      case hc40q4 =>
        go_simp
        refine (HP1.out _).mono ?_
        rintro e v41 ⟨rfl, bb⟩
        go_wp2_with fail
        replace e2 := e2.below bb e2.lt
        replace hb := below24 hb bb
        clear bb
        refine hK.out _ _ ⟨e2.cell 0, e2.cell 1, e2.cell 2, e2.cell 3, e2.cell 4⟩ (fun hHeld => ?_)
        clear hK K
        try (simp only [Act.put, List.setIfInBounds_toArray, List.set_cons_zero, List.set_cons_succ])
        refine rd2 7 9 (fun K hK => ?hc42q7) (fun K hK => ?hc42q9)
        case hc42q7 =>
          go_simp
          refine (HP2.out _).mono ?_
          rintro e v43 ⟨rfl, bb⟩
          go_wp2_with fail
          replace e2 := e2.below bb e2.lt
          replace hb := below24 hb bb
          clear bb
          refine hK.out _ _ ⟨e2.cell 0, e2.cell 1, e2.cell 2, e2.cell 3, e2.cell 4⟩ (fun hHeld => ?_)
          clear hK K
          try (simp only [Act.put, List.setIfInBounds_toArray, List.set_cons_zero, List.set_cons_succ])
          refine tk 8 hHeld ?_
          refine rd1 9 (fun K hK => ?_)
          go_simp
          try go_wp2_with fail
          have lb45 := hb.size
          have l45e2 := e2.lt
          replace e2 := e2.alloc (.cells #[.bool false, .int .i64 0, .int .i64 0, .int .i64 0, .int .i64 0] 62)
          have n45 := Blk.new v43 62 #[.bool false, .int .i64 0, .int .i64 0, .int .i64 0, .int .i64 0]
          replace hb := hb.alloc hb.size (.cells #[.bool false, .int .i64 0, .int .i64 0, .int .i64 0, .int .i64 0] 62)
          generalize v43.alloc (.cells #[.bool false, .int .i64 0, .int .i64 0, .int .i64 0, .int .i64 0] 62) = v45 at *
          have le2 := e2.lt
          generalize v43.heap.size = g45 at *
          refine hK.out _ _ ⟨e2.cell 0, e2.cell 1, e2.cell 2, e2.cell 3, e2.cell 4⟩ (fun hHeld => ?_)
          clear hK K
          try (simp only [Act.put, List.setIfInBounds_toArray, List.set_cons_zero, List.set_cons_succ])
          refine rd1 10 (fun K hK => ?_)
          have c0 : v45.cell? ⟨g45, 0, none⟩ = some (.bool false) := n45.cell 0
          have z0 := n45.frozen 0
          have c1 : v45.cell? ⟨g45, 1, none⟩ = some (.int .i64 0) := n45.cell 1
          have z1 := n45.frozen 1
          have c2 : v45.cell? ⟨g45, 2, none⟩ = some (.int .i64 0) := n45.cell 2
          have z2 := n45.frozen 2
          have c3 : v45.cell? ⟨g45, 3, none⟩ = some (.int .i64 0) := n45.cell 3
          have z3 := n45.frozen 3
          have c4 : v45.cell? ⟨g45, 4, none⟩ = some (.int .i64 0) := n45.cell 4
          have z4 := n45.frozen 4
          go_simp
          try go_wp2_with fail
          replace e2 := (((((e2.far (p := ⟨g45, 0, none⟩) (by dsimp only; omega) (.bool true)).far (p := ⟨g45, 1, none⟩) (by dsimp only; omega) (.int .i64 v0)).far (p := ⟨g45, 2, none⟩) (by dsimp only; omega) (.int .i64 v1)).far (p := ⟨g45, 3, none⟩) (by dsimp only; omega) (.int .i64 v2)).far (p := ⟨g45, 4, none⟩) (by dsimp only; omega) (.int .i64 0))
          replace n45 := (((((n45.set_ 0 (.bool true)).set_ 1 (.int .i64 v0)).set_ 2 (.int .i64 v1)).set_ 3 (.int .i64 v2)).set_ 4 (.int .i64 0))
          replace hb := (((((hb.setCell (p := ⟨g45, 0, none⟩) (by dsimp only; omega) (.bool true)).setCell (p := ⟨g45, 1, none⟩) (by dsimp only; omega) (.int .i64 v0)).setCell (p := ⟨g45, 2, none⟩) (by dsimp only; omega) (.int .i64 v1)).setCell (p := ⟨g45, 3, none⟩) (by dsimp only; omega) (.int .i64 v2)).setCell (p := ⟨g45, 4, none⟩) (by dsimp only; omega) (.int .i64 0))
          clear c0 z0 c1 z1 c2 z2 c3 z3 c4 z4
          generalize (((((v45.setCell ⟨g45, 0, none⟩ (.bool true)).setCell ⟨g45, 1, none⟩ (.int .i64 v0)).setCell ⟨g45, 2, none⟩ (.int .i64 v1)).setCell ⟨g45, 3, none⟩ (.int .i64 v2)).setCell ⟨g45, 4, none⟩ (.int .i64 0)) = v47 at *
          refine hK.out _ _ ⟨e2.cell 0, e2.cell 1, e2.cell 2, e2.cell 3, e2.cell 4⟩ (fun hHeld => ?_)
          clear hK K
          try (simp only [Act.put, List.setIfInBounds_toArray, List.set_cons_zero, List.set_cons_succ])
          refine wpAnyH_done ?hru48 ?hqu48 _
          case hru48 => kernel_rfl
          refine NoPanic.normal ?_
          try go_wp2_with fail
          go_meet
          exact ⟨g45, rfl, by omega, n45, e2, hb⟩
        case hc42q9 =>
          go_simp
          try go_wp2_with fail
          have lb49 := hb.size
          have l49e2 := e2.lt
          replace e2 := e2.alloc (.cells #[.bool false, .int .i64 0, .int .i64 0, .int .i64 0, .int .i64 0] 62)
          have n49 := Blk.new v41 62 #[.bool false, .int .i64 0, .int .i64 0, .int .i64 0, .int .i64 0]
          replace hb := hb.alloc hb.size (.cells #[.bool false, .int .i64 0, .int .i64 0, .int .i64 0, .int .i64 0] 62)
          generalize v41.alloc (.cells #[.bool false, .int .i64 0, .int .i64 0, .int .i64 0, .int .i64 0] 62) = v49 at *
          have le2 := e2.lt
          generalize v41.heap.size = g49 at *
          refine hK.out _ _ ⟨e2.cell 0, e2.cell 1, e2.cell 2, e2.cell 3, e2.cell 4⟩ (fun hHeld => ?_)
          clear hK K
          try (simp only [Act.put, List.setIfInBounds_toArray, List.set_cons_zero, List.set_cons_succ])
          refine rd1 7 (fun K hK => ?_)
          go_simp
          refine (HP2.out _).mono ?_
          rintro e v51 ⟨rfl, bb⟩
          go_wp2_with fail
          replace e2 := e2.below bb e2.lt
          replace n49 := n49.below bb n49.lt
          replace hb := below24 hb bb
          clear bb
          refine hK.out _ _ ⟨e2.cell 0, e2.cell 1, e2.cell 2, e2.cell 3, e2.cell 4⟩ (fun hHeld => ?_)
          clear hK K
          try (simp only [Act.put, List.setIfInBounds_toArray, List.set_cons_zero, List.set_cons_succ])
          refine tk 8 hHeld ?_
          refine rd1 10 (fun K hK => ?_)
          have c0 : v51.cell? ⟨g49, 0, none⟩ = some (.bool false) := n49.cell 0
          have z0 := n49.frozen 0
          have c1 : v51.cell? ⟨g49, 1, none⟩ = some (.int .i64 0) := n49.cell 1
          have z1 := n49.frozen 1
          have c2 : v51.cell? ⟨g49, 2, none⟩ = some (.int .i64 0) := n49.cell 2
          have z2 := n49.frozen 2
          have c3 : v51.cell? ⟨g49, 3, none⟩ = some (.int .i64 0) := n49.cell 3
          have z3 := n49.frozen 3
          have c4 : v51.cell? ⟨g49, 4, none⟩ = some (.int .i64 0) := n49.cell 4
          have z4 := n49.frozen 4
          go_simp
          try go_wp2_with fail
          replace e2 := (((((e2.far (p := ⟨g49, 0, none⟩) (by dsimp only; omega) (.bool true)).far (p := ⟨g49, 1, none⟩) (by dsimp only; omega) (.int .i64 v0)).far (p := ⟨g49, 2, none⟩) (by dsimp only; omega) (.int .i64 v1)).far (p := ⟨g49, 3, none⟩) (by dsimp only; omega) (.int .i64 v2)).far (p := ⟨g49, 4, none⟩) (by dsimp only; omega) (.int .i64 0))
          replace n49 := (((((n49.set_ 0 (.bool true)).set_ 1 (.int .i64 v0)).set_ 2 (.int .i64 v1)).set_ 3 (.int .i64 v2)).set_ 4 (.int .i64 0))
          replace hb := (((((hb.setCell (p := ⟨g49, 0, none⟩) (by dsimp only; omega) (.bool true)).setCell (p := ⟨g49, 1, none⟩) (by dsimp only; omega) (.int .i64 v0)).setCell (p := ⟨g49, 2, none⟩) (by dsimp only; omega) (.int .i64 v1)).setCell (p := ⟨g49, 3, none⟩) (by dsimp only; omega) (.int .i64 v2)).setCell (p := ⟨g49, 4, none⟩) (by dsimp only; omega) (.int .i64 0))
          clear c0 z0 c1 z1 c2 z2 c3 z3 c4 z4
          generalize (((((v51.setCell ⟨g49, 0, none⟩ (.bool true)).setCell ⟨g49, 1, none⟩ (.int .i64 v0)).setCell ⟨g49, 2, none⟩ (.int .i64 v1)).setCell ⟨g49, 3, none⟩ (.int .i64 v2)).setCell ⟨g49, 4, none⟩ (.int .i64 0)) = v53 at *
          refine hK.out _ _ ⟨e2.cell 0, e2.cell 1, e2.cell 2, e2.cell 3, e2.cell 4⟩ (fun hHeld => ?_)
          clear hK K
          try (simp only [Act.put, List.setIfInBounds_toArray, List.set_cons_zero, List.set_cons_succ])
          refine wpAnyH_done ?hru54 ?hqu54 _
          case hru54 => kernel_rfl
          refine NoPanic.normal ?_
          try go_wp2_with fail
          go_meet
          exact ⟨g49, rfl, by omega, n49, e2, hb⟩
      case hc40q9 =>
        go_simp
        try go_wp2_with fail
        have lb55 := hb.size
        have l55e2 := e2.lt
        replace e2 := e2.alloc (.cells #[.bool false, .int .i64 0, .int .i64 0, .int .i64 0, .int .i64 0] 62)
        have n55 := Blk.new v39 62 #[.bool false, .int .i64 0, .int .i64 0, .int .i64 0, .int .i64 0]
        replace hb := hb.alloc hb.size (.cells #[.bool false, .int .i64 0, .int .i64 0, .int .i64 0, .int .i64 0] 62)
        generalize v39.alloc (.cells #[.bool false, .int .i64 0, .int .i64 0, .int .i64 0, .int .i64 0] 62) = v55 at *
        have le2 := e2.lt
        generalize v39.heap.size = g55 at *
        refine hK.out _ _ ⟨e2.cell 0, e2.cell 1, e2.cell 2, e2.cell 3, e2.cell 4⟩ (fun hHeld => ?_)
        clear hK K
        try (simp only [Act.put, List.setIfInBounds_toArray, List.set_cons_zero, List.set_cons_succ])
        refine rd1 4 (fun K hK => ?_)
        go_simp
        refine (HP1.out _).mono ?_
        rintro e v57 ⟨rfl, bb⟩
        go_wp2_with fail
        replace e2 := e2.below bb e2.lt
        replace n55 := n55.below bb n55.lt
        replace hb := below24 hb bb
        clear bb
        refine hK.out _ _ ⟨e2.cell 0, e2.cell 1, e2.cell 2, e2.cell 3, e2.cell 4⟩ (fun hHeld => ?_)
        clear hK K
        try (simp only [Act.put, List.setIfInBounds_toArray, List.set_cons_zero, List.set_cons_succ])
        refine rd1 7 (fun K hK => ?_)
        go_simp
        refine (HP2.out _).mono ?_
        rintro e v59 ⟨rfl, bb⟩
        go_wp2_with fail
        replace e2 := e2.below bb e2.lt
        replace n55 := n55.below bb n55.lt
        replace hb := below24 hb bb
        clear bb
        refine hK.out _ _ ⟨e2.cell 0, e2.cell 1, e2.cell 2, e2.cell 3, e2.cell 4⟩ (fun hHeld => ?_)
        clear hK K
        try (simp only [Act.put, List.setIfInBounds_toArray, List.set_cons_zero, List.set_cons_succ])
        refine tk 8 hHeld ?_
        refine rd1 10 (fun K hK => ?_)
        have c0 : v59.cell? ⟨g55, 0, none⟩ = some (.bool false) := n55.cell 0
        have z0 := n55.frozen 0
        have c1 : v59.cell? ⟨g55, 1, none⟩ = some (.int .i64 0) := n55.cell 1
        have z1 := n55.frozen 1
        have c2 : v59.cell? ⟨g55, 2, none⟩ = some (.int .i64 0) := n55.cell 2
        have z2 := n55.frozen 2
        have c3 : v59.cell? ⟨g55, 3, none⟩ = some (.int .i64 0) := n55.cell 3
        have z3 := n55.frozen 3
        have c4 : v59.cell? ⟨g55, 4, none⟩ = some (.int .i64 0) := n55.cell 4
        have z4 := n55.frozen 4
        go_simp
        try go_wp2_with fail
        replace e2 := (((((e2.far (p := ⟨g55, 0, none⟩) (by dsimp only; omega) (.bool true)).far (p := ⟨g55, 1, none⟩) (by dsimp only; omega) (.int .i64 v0)).far (p := ⟨g55, 2, none⟩) (by dsimp only; omega) (.int .i64 v1)).far (p := ⟨g55, 3, none⟩) (by dsimp only; omega) (.int .i64 v2)).far (p := ⟨g55, 4, none⟩) (by dsimp only; omega) (.int .i64 0))
        replace n55 := (((((n55.set_ 0 (.bool true)).set_ 1 (.int .i64 v0)).set_ 2 (.int .i64 v1)).set_ 3 (.int .i64 v2)).set_ 4 (.int .i64 0))
        replace hb := (((((hb.setCell (p := ⟨g55, 0, none⟩) (by dsimp only; omega) (.bool true)).setCell (p := ⟨g55, 1, none⟩) (by dsimp only; omega) (.int .i64 v0)).setCell (p := ⟨g55, 2, none⟩) (by dsimp only; omega) (.int .i64 v1)).setCell (p := ⟨g55, 3, none⟩) (by dsimp only; omega) (.int .i64 v2)).setCell (p := ⟨g55, 4, none⟩) (by dsimp only; omega) (.int .i64 0))
        clear c0 z0 c1 z1 c2 z2 c3 z3 c4 z4
        generalize (((((v59.setCell ⟨g55, 0, none⟩ (.bool true)).setCell ⟨g55, 1, none⟩ (.int .i64 v0)).setCell ⟨g55, 2, none⟩ (.int .i64 v1)).setCell ⟨g55, 3, none⟩ (.int .i64 v2)).setCell ⟨g55, 4, none⟩ (.int .i64 0)) = v61 at *
        refine hK.out _ _ ⟨e2.cell 0, e2.cell 1, e2.cell 2, e2.cell 3, e2.cell 4⟩ (fun hHeld => ?_)
        clear hK K
        try (simp only [Act.put, List.setIfInBounds_toArray, List.set_cons_zero, List.set_cons_succ])
        refine wpAnyH_done ?hru62 ?hqu62 _
        case hru62 => kernel_rfl
        refine NoPanic.normal ?_
        try go_wp2_with fail
        go_meet
        exact ⟨g55, rfl, by omega, n55, e2, hb⟩
    case hc38q9 =>
      go_simp
      try go_wp2_with fail
      have lb63 := hb.size
      have l63e2 := e2.lt
      replace e2 := e2.alloc (.cells #[.bool false, .int .i64 0, .int .i64 0, .int .i64 0, .int .i64 0] 62)
      have n63 := Blk.new W37 62 #[.bool false, .int .i64 0, .int .i64 0, .int .i64 0, .int .i64 0]
      replace hb := hb.alloc hb.size (.cells #[.bool false, .int .i64 0, .int .i64 0, .int .i64 0, .int .i64 0] 62)
      generalize W37.alloc (.cells #[.bool false, .int .i64 0, .int .i64 0, .int .i64 0, .int .i64 0] 62) = v63 at *
      have le2 := e2.lt
      generalize W37.heap.size = g63 at *
      refine hK.out _ _ ⟨e2.cell 0, e2.cell 1, e2.cell 2, e2.cell 3, e2.cell 4⟩ (fun hHeld => ?_)
      clear hK K
      try (simp only [Act.put, List.setIfInBounds_toArray, List.set_cons_zero, List.set_cons_succ])
      refine rd1 1 (fun K hK => ?_)
      go_simp
      refine (HP0.out _).mono ?_
      rintro e v65 ⟨rfl, bb⟩
      go_wp2_with fail
      replace e2 := e2.below bb e2.lt
      replace n63 := n63.below bb n63.lt
      replace hb := below24 hb bb
      clear bb
      refine hK.out _ _ ⟨e2.cell 0, e2.cell 1, e2.cell 2, e2.cell 3, e2.cell 4⟩ (fun hHeld => ?_)
      clear hK K
      try (simp only [Act.put, List.setIfInBounds_toArray, List.set_cons_zero, List.set_cons_succ])
      refine rd1 4 (fun K hK => ?_)
      go_simp
      refine (HP1.out _).mono ?_
      rintro e v67 ⟨rfl, bb⟩
      go_wp2_with fail
      replace e2 := e2.below bb e2.lt
      replace n63 := n63.below bb n63.lt
      replace hb := below24 hb bb
      clear bb
      refine hK.out _ _ ⟨e2.cell 0, e2.cell 1, e2.cell 2, e2.cell 3, e2.cell 4⟩ (fun hHeld => ?_)
      clear hK K
      try (simp only [Act.put, List.setIfInBounds_toArray, List.set_cons_zero, List.set_cons_succ])
      refine rd1 7 (fun K hK => ?_)
      go_simp
      refine (HP2.out _).mono ?_
      rintro e v69 ⟨rfl, bb⟩
      go_wp2_with fail
      replace e2 := e2.below bb e2.lt
      replace n63 := n63.below bb n63.lt
      replace hb := below24 hb bb
      clear bb
      refine hK.out _ _ ⟨e2.cell 0, e2.cell 1, e2.cell 2, e2.cell 3, e2.cell 4⟩ (fun hHeld => ?_)
      clear hK K
      try (simp only [Act.put, List.setIfInBounds_toArray, List.set_cons_zero, List.set_cons_succ])
      refine tk 8 hHeld ?_
      refine rd1 10 (fun K hK => ?_)
      have c0 : v69.cell? ⟨g63, 0, none⟩ = some (.bool false) := n63.cell 0
      have z0 := n63.frozen 0
      have c1 : v69.cell? ⟨g63, 1, none⟩ = some (.int .i64 0) := n63.cell 1
      have z1 := n63.frozen 1
      have c2 : v69.cell? ⟨g63, 2, none⟩ = some (.int .i64 0) := n63.cell 2
      have z2 := n63.frozen 2
      have c3 : v69.cell? ⟨g63, 3, none⟩ = some (.int .i64 0) := n63.cell 3
      have z3 := n63.frozen 3
      have c4 : v69.cell? ⟨g63, 4, none⟩ = some (.int .i64 0) := n63.cell 4
      have z4 := n63.frozen 4
      go_simp
      try go_wp2_with fail
      replace e2 := (((((e2.far (p := ⟨g63, 0, none⟩) (by dsimp only; omega) (.bool true)).far (p := ⟨g63, 1, none⟩) (by dsimp only; omega) (.int .i64 v0)).far (p := ⟨g63, 2, none⟩) (by dsimp only; omega) (.int .i64 v1)).far (p := ⟨g63, 3, none⟩) (by dsimp only; omega) (.int .i64 v2)).far (p := ⟨g63, 4, none⟩) (by dsimp only; omega) (.int .i64 0))
      replace n63 := (((((n63.set_ 0 (.bool true)).set_ 1 (.int .i64 v0)).set_ 2 (.int .i64 v1)).set_ 3 (.int .i64 v2)).set_ 4 (.int .i64 0))
      replace hb := (((((hb.setCell (p := ⟨g63, 0, none⟩) (by dsimp only; omega) (.bool true)).setCell (p := ⟨g63, 1, none⟩) (by dsimp only; omega) (.int .i64 v0)).setCell (p := ⟨g63, 2, none⟩) (by dsimp only; omega) (.int .i64 v1)).setCell (p := ⟨g63, 3, none⟩) (by dsimp only; omega) (.int .i64 v2)).setCell (p := ⟨g63, 4, none⟩) (by dsimp only; omega) (.int .i64 0))
      clear c0 z0 c1 z1 c2 z2 c3 z3 c4 z4
      generalize (((((v69.setCell ⟨g63, 0, none⟩ (.bool true)).setCell ⟨g63, 1, none⟩ (.int .i64 v0)).setCell ⟨g63, 2, none⟩ (.int .i64 v1)).setCell ⟨g63, 3, none⟩ (.int .i64 v2)).setCell ⟨g63, 4, none⟩ (.int .i64 0)) = v71 at *
      refine hK.out _ _ ⟨e2.cell 0, e2.cell 1, e2.cell 2, e2.cell 3, e2.cell 4⟩ (fun hHeld => ?_)
      clear hK K
      try (simp only [Act.put, List.setIfInBounds_toArray, List.set_cons_zero, List.set_cons_succ])
      refine wpAnyH_done ?hru72 ?hqu72 _
      case hru72 => kernel_rfl
      refine NoPanic.normal ?_
      try go_wp2_with fail
      go_meet
      exact ⟨g63, rfl, by omega, n63, e2, hb⟩
  case rest =>
    clear e2 hb
    obtain ⟨g, rfl, hlg, e4, e2, hb⟩ := hcut
    have k4 : wc.cell? ⟨g, 4, none⟩ = some (.int .i64 0) := e4.cell 4
    have y4 := e4.frozen 4
    go_upto_region 10 with (fail)
    replace e4 := e4.set_ 4 (.int .i64 (10 * D7))
    replace e2 := e2.far (p := ⟨g, 4, none⟩) (by dsimp only; omega) (.int .i64 (10 * D7))
    replace hb := hb.setCell (p := ⟨g, 4, none⟩) (by dsimp only; omega) (.int .i64 (10 * D7))
    clear k4 y4
    generalize wc.setCell ⟨g, 4, none⟩ (.int .i64 (10 * D7)) = W5 at *
    have k0 : (W5).cell? ⟨g, 0, none⟩ = some (.bool true) := e4.cell 0
    have k1 : (W5).cell? ⟨g, 1, none⟩ = some (.int .i64 v0) := e4.cell 1
    have k2 : (W5).cell? ⟨g, 2, none⟩ = some (.int .i64 v1) := e4.cell 2
    have k3 : (W5).cell? ⟨g, 3, none⟩ = some (.int .i64 v2) := e4.cell 3
    have k4 : (W5).cell? ⟨g, 4, none⟩ = some (.int .i64 (10 * D7)) := e4.cell 4
    go_wp2_with fail
    clear k0 k1 k2 k3 k4
    refine (HMY.out _).mono ?_
    rintro e w6 ⟨rfl, b6⟩
    replace e4 := e4.below b6 e4.lt
    replace e2 := e2.below b6 e2.lt
    replace hb := below24 hb b6
    cases my
    · have HC : Hid (takeC s = .agg #[.bool false, .int .i64 0, .int .i64 0, .int .i64 0, .int .i64 0]) := hid (by rw [HC0.out, HM.out, if_neg (by simp)])
      have HE : Hid (takeE s = 5) := hid (by rw [HE0.out, HM.out]; rfl)
      go_upto_region 11 with (fail)
      have c0 : (w6).cell? ⟨w.heap.size, 0, none⟩ = some (.bool false) := e2.cell 0
      have c1 : (w6).cell? ⟨w.heap.size, 1, none⟩ = some (.int .i64 0) := e2.cell 1
      have c2 : (w6).cell? ⟨w.heap.size, 2, none⟩ = some (.int .i64 0) := e2.cell 2
      have c3 : (w6).cell? ⟨w.heap.size, 3, none⟩ = some (.int .i64 0) := e2.cell 3
      have c4 : (w6).cell? ⟨w.heap.size, 4, none⟩ = some (.int .i64 0) := e2.cell 4
      have z0 := e2.frozen 0
      have z1 := e2.frozen 1
      have z2 := e2.frozen 2
      have z3 := e2.frozen 3
      have z4 := e2.frozen 4
      go_wp2_with fail
      have t2 := (((((e2.set_ 0 (.bool false)).set_ 1 (.int .i64 0)).set_ 2 (.int .i64 0)).set_ 3 (.int .i64 0)).set_ 4 (.int .i64 0))
      have tb := (((((hb.setCell (p := ⟨w.heap.size, 0, none⟩) (by simp) (.bool false)).setCell (p := ⟨w.heap.size, 1, none⟩) (by simp) (.int .i64 0)).setCell (p := ⟨w.heap.size, 2, none⟩) (by simp) (.int .i64 0)).setCell (p := ⟨w.heap.size, 3, none⟩) (by simp) (.int .i64 0)).setCell (p := ⟨w.heap.size, 4, none⟩) (by simp) (.int .i64 0))
      refine bodyPost_ret (rtk_results _ _ w.heap.size _ _ _ _ _ _ rfl rfl t2) rfl ⟨?_, tb⟩
      rw [HC.out, HE.out]
      rfl
    · have HC : Hid (takeC s = .agg #[.bool true, .int .i64 v0, .int .i64 v1, .int .i64 v2, .int .i64 (10 * D7)]) := hid (by rw [HC0.out, HM.out, if_pos rfl])
      have HE : Hid (takeE s = 0) := hid (by rw [HE0.out, HM.out]; rfl)
      go_upto_region 12 with (fail)
      have k0 : (w6).cell? ⟨g, 0, none⟩ = some (.bool true) := e4.cell 0
      have k1 : (w6).cell? ⟨g, 1, none⟩ = some (.int .i64 v0) := e4.cell 1
      have k2 : (w6).cell? ⟨g, 2, none⟩ = some (.int .i64 v1) := e4.cell 2
      have k3 : (w6).cell? ⟨g, 3, none⟩ = some (.int .i64 v2) := e4.cell 3
      have k4 : (w6).cell? ⟨g, 4, none⟩ = some (.int .i64 (10 * D7)) := e4.cell 4
      have c0 : (w6).cell? ⟨w.heap.size, 0, none⟩ = some (.bool false) := e2.cell 0
      have c1 : (w6).cell? ⟨w.heap.size, 1, none⟩ = some (.int .i64 0) := e2.cell 1
      have c2 : (w6).cell? ⟨w.heap.size, 2, none⟩ = some (.int .i64 0) := e2.cell 2
      have c3 : (w6).cell? ⟨w.heap.size, 3, none⟩ = some (.int .i64 0) := e2.cell 3
      have c4 : (w6).cell? ⟨w.heap.size, 4, none⟩ = some (.int .i64 0) := e2.cell 4
      have z0 := e2.frozen 0
      have z1 := e2.frozen 1
      have z2 := e2.frozen 2
      have z3 := e2.frozen 3
      have z4 := e2.frozen 4
      go_wp2_with fail
      have t2 := (((((e2.set_ 0 (.bool true)).set_ 1 (.int .i64 v0)).set_ 2 (.int .i64 v1)).set_ 3 (.int .i64 v2)).set_ 4 (.int .i64 (10 * D7)))
      have tb := (((((hb.setCell (p := ⟨w.heap.size, 0, none⟩) (by simp) (.bool true)).setCell (p := ⟨w.heap.size, 1, none⟩) (by simp) (.int .i64 v0)).setCell (p := ⟨w.heap.size, 2, none⟩) (by simp) (.int .i64 v1)).setCell (p := ⟨w.heap.size, 3, none⟩) (by simp) (.int .i64 v2)).setCell (p := ⟨w.heap.size, 4, none⟩) (by simp) (.int .i64 (10 * D7)))
      refine bodyPost_ret (rtk_results _ _ w.heap.size _ _ _ _ _ _ rfl rfl t2) rfl ⟨?_, tb⟩
      rw [HC.out, HE.out]
      rfl
set_option maxRecDepth 20000 in
set_option maxHeartbeats 8000000 in
theorem r_takeG9 (s : ByteArray) (w : World) (hs0 : s.size ≤ 100) (hn : s.size = 9) (HD : digsB (s.extract 0 6) = true) (h46 : byteP s 6 = 46) (HD7 : digsB (s.extract 7 9) = true) : Calls Try.prog 46 #[.string s] w (Taken s w) := by
  have hbt : tkB s = true := by rw [tkB_ref s (by omega)]; unfold refB; rw [HD, hn, HD7]; simp [h46]
  have hbe : (behP (tailS s)).1 = 10 * digP (byteP s 7) + digP (byteP s 8) := by rw [beh_tail s (by omega), if_neg (by omega), if_pos ⟨h46, .inr hn⟩]; simp [hn]
  have hk0 := tkH_is s (by omega) 0 (by omega)
  have hk1 := tkH_is s (by omega) 1 (by omega)
  have hk2 := tkH_is s (by omega) 2 (by omega)
  have q0 : pairV s = tkH s 0 := by rw [hk0]; rfl
  have q1 : pairV (s.extract 2 9) = tkH s 1 := by unfold pairV; rw [byteP_ext s 2 9 0 (by omega) (by omega), byteP_ext s 2 9 1 (by omega) (by omega), hk1]
  have q2 : pairV (s.extract 4 9) = tkH s 2 := by unfold pairV; rw [byteP_ext s 4 9 0 (by omega) (by omega), byteP_ext s 4 9 1 (by omega) (by omega), hk2]
  have HC0 : Hid (takeC s = if tkM s = true then .agg #[.bool true, .int .i64 (tkH s 0), .int .i64 (tkH s 1), .int .i64 (tkH s 2), .int .i64 (behP (tailS s)).1] else .agg #[.bool false, .int .i64 0, .int .i64 0, .int .i64 0, .int .i64 0]) := hid (by unfold takeC; rw [hbt]; simp [show s.size ≠ 0 by omega])
  have HE0 : Hid (takeE s = if tkM s = false then 5 else 0) := hid (by unfold takeE; rw [hbt]; rfl)
  have HM : Hid (tkM s = mayP true (tkH s 0) (tkH s 1) (tkH s 2) (behP (tailS s)).1) := hid (by unfold tkM; simp [show s.size ≠ 0 by omega])
  rw [hbe] at HC0 HM
  have HP0 := hid fun w => r_pair s w (by omega)
  have HP1 := hid fun w => r_pair (s.extract 2 9) w (by rw [ext_size s 2 9 (by omega)]; omega)
  have HP2 := hid fun w => r_pair (s.extract 4 9) w (by rw [ext_size s 4 9 (by omega)]; omega)
  rw [q0] at HP0
  rw [q1] at HP1
  rw [q2] at HP2
  have he := empty_no s (by omega)
  have HH := hid fun w => r_digs (s.extract 0 6) w (by rw [ext_size s 0 6 (by omega)]; omega)
  rw [HD] at HH
  have HH7 := hid fun w => r_digs (s.extract 7 9) w (by rw [ext_size s 7 9 (by omega)]; omega)
  rw [HD7] at HH7
  have p6 : 6 < s.size := by omega
  have p6c : (6 : Int) < (s.size : Int) := by omega
  have hx := at_is s 6 p6
  rw [h46] at hx
  have q7 : pairV (s.extract 7 9) = 10 * digP (byteP s 7) + digP (byteP s 8) := by unfold pairV; rw [byteP_ext s 7 9 0 (by omega) (by omega), byteP_ext s 7 9 1 (by omega) (by omega)]
  have HP7 := hid fun w => r_pair (s.extract 7 9) w (by rw [ext_size s 7 9 (by omega)]; omega)
  rw [q7] at HP7
  generalize digP (byteP s 7) = D7 at *
  generalize digP (byteP s 8) = D8 at *
  clear hk0 hk1 hk2 q0 q1 q2 hbe hbt HD h46 HD7 q7
  obtain ⟨v0, hv0⟩ : ∃ v, tkH s 0 = v := ⟨_, rfl⟩
  obtain ⟨v1, hv1⟩ : ∃ v, tkH s 1 = v := ⟨_, rfl⟩
  obtain ⟨v2, hv2⟩ : ∃ v, tkH s 2 = v := ⟨_, rfl⟩
  rw [hv0, hv1, hv2] at HC0 HM
  rw [hv0] at HP0
  rw [hv1] at HP1
  rw [hv2] at HP2
  clear hv0 hv1 hv2
  have HMY := hid fun w => r_May true v0 v1 v2 (10 * D7 + D8) w
  obtain ⟨my, hmy⟩ : ∃ v, mayP true v0 v1 v2 (10 * D7 + D8) = v := ⟨_, rfl⟩
  rw [hmy] at HM HMY
  clear hmy
  have e2 := Blk.new w 62 #[.bool false, .int .i64 0, .int .i64 0, .int .i64 0, .int .i64 0]
  have hb := (Below.refl w.heap.size w).alloc (Nat.le_refl _) (.cells #[.bool false, .int .i64 0, .int .i64 0, .int .i64 0, .int .i64 0] 62)
  go_enter Try.func46, Try.ntmps46
  go_wp2_with fail
  generalize w.alloc (.cells #[.bool false, .int .i64 0, .int .i64 0, .int .i64 0, .int .i64 0] 62) = W at *
  refine (HH.out _).mono ?_
  rintro e w' ⟨rfl, rfl⟩
  go_wp2_with fail
  refine (HH7.out _).mono ?_
  rintro e w' ⟨rfl, rfl⟩
  go_upto_region 5 with (fail)
  go_cut [4] from 44 to 52 (fun v4 wx => ∃ g : Nat, v4 = .pointer (some ⟨g, 0, none⟩) ∧ w.heap.size < g ∧ Blk wx g 62 #[.bool true, .int .i64 v0, .int .i64 v1, .int .i64 v2, .int .i64 0] ∧ Blk wx w.heap.size 62 #[.bool false, .int .i64 0, .int .i64 0, .int .i64 0, .int .i64 0] ∧ Below w.heap.size w wx)
  case first =>
    have hlt0 := e2.lt
    refine wp_region_noPanic ?_
    refine wp_region_held_drew (S := (fun w' : World => w'.cell? ⟨w.heap.size, 0, none⟩ = some (.bool false) ∧ w'.cell? ⟨w.heap.size, 1, none⟩ = some (.int .i64 0) ∧ w'.cell? ⟨w.heap.size, 2, none⟩ = some (.int .i64 0) ∧ w'.cell? ⟨w.heap.size, 3, none⟩ = some (.int .i64 0) ∧ w'.cell? ⟨w.heap.size, 4, none⟩ = some (.int .i64 0))) (by kernel_rfl) ⟨e2.cell 0, e2.cell 1, e2.cell 2, e2.cell 3, e2.cell 4⟩ (fun hHeld => ?_)
    refine (show wpAnyH _ _ _ _ _ 11 _ _ _ from ?_)
    try (simp only [Act.put, List.setIfInBounds_toArray, List.set_cons_zero, List.set_cons_succ])
    replace e2 := e2.drew
    replace hb := hb.drew
    generalize W.drew = W73 at *
    refine tk 0 hHeld ?_
    refine tk 2 hHeld ?_
    refine tk 3 hHeld ?_
    refine tk 5 hHeld ?_
    refine tk 6 hHeld ?_
    refine rd2 1 9 (fun K hK => ?hc74q1) (fun K hK => ?hc74q9)
    case hc74q1 =>
      go_simp
      refine (HP0.out _).mono ?_
      rintro e v75 ⟨rfl, bb⟩
      go_wp2_with fail
      replace e2 := e2.below bb e2.lt
      replace hb := below24 hb bb
      clear bb
      refine hK.out _ _ ⟨e2.cell 0, e2.cell 1, e2.cell 2, e2.cell 3, e2.cell 4⟩ (fun hHeld => ?_)
      clear hK K
      try (simp only [Act.put, List.setIfInBounds_toArray, List.set_cons_zero, List.set_cons_succ])
      refine rd2 4 9 (fun K hK => ?hc76q4) (fun K hK => ?hc76q9)
      case hc76q4 =>
        go_simp
        refine (HP1.out _).mono ?_
        rintro e v77 ⟨rfl, bb⟩
        go_wp2_with fail
        replace e2 := e2.below bb e2.lt
        replace hb := below24 hb bb
        clear bb
        refine hK.out _ _ ⟨e2.cell 0, e2.cell 1, e2.cell 2, e2.cell 3, e2.cell 4⟩ (fun hHeld => ?_)
        clear hK K
        try (simp only [Act.put, List.setIfInBounds_toArray, List.set_cons_zero, List.set_cons_succ])
        refine rd2 7 9 (fun K hK => ?hc78q7) (fun K hK => ?hc78q9)
        case hc78q7 =>
          go_simp
          refine (HP2.out _).mono ?_
          rintro e v79 ⟨rfl, bb⟩
          go_wp2_with fail
          replace e2 := e2.below bb e2.lt
          replace hb := below24 hb bb
          clear bb
          refine hK.out _ _ ⟨e2.cell 0, e2.cell 1, e2.cell 2, e2.cell 3, e2.cell 4⟩ (fun hHeld => ?_)
          clear hK K
          try (simp only [Act.put, List.setIfInBounds_toArray, List.set_cons_zero, List.set_cons_succ])
          refine tk 8 hHeld ?_
          refine rd1 9 (fun K hK => ?_)
          go_simp
          try go_wp2_with fail
          have lb81 := hb.size
          have l81e2 := e2.lt
          replace e2 := e2.alloc (.cells #[.bool false, .int .i64 0, .int .i64 0, .int .i64 0, .int .i64 0] 62)
          have n81 := Blk.new v79 62 #[.bool false, .int .i64 0, .int .i64 0, .int .i64 0, .int .i64 0]
          replace hb := hb.alloc hb.size (.cells #[.bool false, .int .i64 0, .int .i64 0, .int .i64 0, .int .i64 0] 62)
          generalize v79.alloc (.cells #[.bool false, .int .i64 0, .int .i64 0, .int .i64 0, .int .i64 0] 62) = v81 at *
          have le2 := e2.lt
          generalize v79.heap.size = g81 at *
          refine hK.out _ _ ⟨e2.cell 0, e2.cell 1, e2.cell 2, e2.cell 3, e2.cell 4⟩ (fun hHeld => ?_)
          clear hK K
          try (simp only [Act.put, List.setIfInBounds_toArray, List.set_cons_zero, List.set_cons_succ])
          refine rd1 10 (fun K hK => ?_)
          have c0 : v81.cell? ⟨g81, 0, none⟩ = some (.bool false) := n81.cell 0
          have z0 := n81.frozen 0
          have c1 : v81.cell? ⟨g81, 1, none⟩ = some (.int .i64 0) := n81.cell 1
          have z1 := n81.frozen 1
          have c2 : v81.cell? ⟨g81, 2, none⟩ = some (.int .i64 0) := n81.cell 2
          have z2 := n81.frozen 2
          have c3 : v81.cell? ⟨g81, 3, none⟩ = some (.int .i64 0) := n81.cell 3
          have z3 := n81.frozen 3
          have c4 : v81.cell? ⟨g81, 4, none⟩ = some (.int .i64 0) := n81.cell 4
          have z4 := n81.frozen 4
          go_simp
          try go_wp2_with fail
          replace e2 := (((((e2.far (p := ⟨g81, 0, none⟩) (by dsimp only; omega) (.bool true)).far (p := ⟨g81, 1, none⟩) (by dsimp only; omega) (.int .i64 v0)).far (p := ⟨g81, 2, none⟩) (by dsimp only; omega) (.int .i64 v1)).far (p := ⟨g81, 3, none⟩) (by dsimp only; omega) (.int .i64 v2)).far (p := ⟨g81, 4, none⟩) (by dsimp only; omega) (.int .i64 0))
          replace n81 := (((((n81.set_ 0 (.bool true)).set_ 1 (.int .i64 v0)).set_ 2 (.int .i64 v1)).set_ 3 (.int .i64 v2)).set_ 4 (.int .i64 0))
          replace hb := (((((hb.setCell (p := ⟨g81, 0, none⟩) (by dsimp only; omega) (.bool true)).setCell (p := ⟨g81, 1, none⟩) (by dsimp only; omega) (.int .i64 v0)).setCell (p := ⟨g81, 2, none⟩) (by dsimp only; omega) (.int .i64 v1)).setCell (p := ⟨g81, 3, none⟩) (by dsimp only; omega) (.int .i64 v2)).setCell (p := ⟨g81, 4, none⟩) (by dsimp only; omega) (.int .i64 0))
          clear c0 z0 c1 z1 c2 z2 c3 z3 c4 z4
          generalize (((((v81.setCell ⟨g81, 0, none⟩ (.bool true)).setCell ⟨g81, 1, none⟩ (.int .i64 v0)).setCell ⟨g81, 2, none⟩ (.int .i64 v1)).setCell ⟨g81, 3, none⟩ (.int .i64 v2)).setCell ⟨g81, 4, none⟩ (.int .i64 0)) = v83 at *
          refine hK.out _ _ ⟨e2.cell 0, e2.cell 1, e2.cell 2, e2.cell 3, e2.cell 4⟩ (fun hHeld => ?_)
          clear hK K
          try (simp only [Act.put, List.setIfInBounds_toArray, List.set_cons_zero, List.set_cons_succ])
          refine wpAnyH_done ?hru84 ?hqu84 _
          case hru84 => kernel_rfl
          refine NoPanic.normal ?_
          try go_wp2_with fail
          go_meet
          exact ⟨g81, rfl, by omega, n81, e2, hb⟩
        case hc78q9 =>
          go_simp
          try go_wp2_with fail
          have lb85 := hb.size
          have l85e2 := e2.lt
          replace e2 := e2.alloc (.cells #[.bool false, .int .i64 0, .int .i64 0, .int .i64 0, .int .i64 0] 62)
          have n85 := Blk.new v77 62 #[.bool false, .int .i64 0, .int .i64 0, .int .i64 0, .int .i64 0]
          replace hb := hb.alloc hb.size (.cells #[.bool false, .int .i64 0, .int .i64 0, .int .i64 0, .int .i64 0] 62)
          generalize v77.alloc (.cells #[.bool false, .int .i64 0, .int .i64 0, .int .i64 0, .int .i64 0] 62) = v85 at *
          have le2 := e2.lt
          generalize v77.heap.size = g85 at *
          refine hK.out _ _ ⟨e2.cell 0, e2.cell 1, e2.cell 2, e2.cell 3, e2.cell 4⟩ (fun hHeld => ?_)
          clear hK K
          try (simp only [Act.put, List.setIfInBounds_toArray, List.set_cons_zero, List.set_cons_succ])
          refine rd1 7 (fun K hK => ?_)
          go_simp
          refine (HP2.out _).mono ?_
          rintro e v87 ⟨rfl, bb⟩
          go_wp2_with fail
          replace e2 := e2.below bb e2.lt
          replace n85 := n85.below bb n85.lt
          replace hb := below24 hb bb
          clear bb
          refine hK.out _ _ ⟨e2.cell 0, e2.cell 1, e2.cell 2, e2.cell 3, e2.cell 4⟩ (fun hHeld => ?_)
          clear hK K
          try (simp only [Act.put, List.setIfInBounds_toArray, List.set_cons_zero, List.set_cons_succ])
          refine tk 8 hHeld ?_
          refine rd1 10 (fun K hK => ?_)
          have c0 : v87.cell? ⟨g85, 0, none⟩ = some (.bool false) := n85.cell 0
          have z0 := n85.frozen 0
          have c1 : v87.cell? ⟨g85, 1, none⟩ = some (.int .i64 0) := n85.cell 1
          have z1 := n85.frozen 1
          have c2 : v87.cell? ⟨g85, 2, none⟩ = some (.int .i64 0) := n85.cell 2
          have z2 := n85.frozen 2
          have c3 : v87.cell? ⟨g85, 3, none⟩ = some (.int .i64 0) := n85.cell 3
          have z3 := n85.frozen 3
          have c4 : v87.cell? ⟨g85, 4, none⟩ = some (.int .i64 0) := n85.cell 4
          have z4 := n85.frozen 4
          go_simp
          try go_wp2_with fail
          replace e2 := (((((e2.far (p := ⟨g85, 0, none⟩) (by dsimp only; omega) (.bool true)).far (p := ⟨g85, 1, none⟩) (by dsimp only; omega) (.int .i64 v0)).far (p := ⟨g85, 2, none⟩) (by dsimp only; omega) (.int .i64 v1)).far (p := ⟨g85, 3, none⟩) (by dsimp only; omega) (.int .i64 v2)).far (p := ⟨g85, 4, none⟩) (by dsimp only; omega) (.int .i64 0))
          replace n85 := (((((n85.set_ 0 (.bool true)).set_ 1 (.int .i64 v0)).set_ 2 (.int .i64 v1)).set_ 3 (.int .i64 v2)).set_ 4 (.int .i64 0))
          replace hb := (((((hb.setCell (p := ⟨g85, 0, none⟩) (by dsimp only; omega) (.bool true)).setCell (p := ⟨g85, 1, none⟩) (by dsimp only; omega) (.int .i64 v0)).setCell (p := ⟨g85, 2, none⟩) (by dsimp only; omega) (.int .i64 v1)).setCell (p := ⟨g85, 3, none⟩) (by dsimp only; omega) (.int .i64 v2)).setCell (p := ⟨g85, 4, none⟩) (by dsimp only; omega) (.int .i64 0))
          clear c0 z0 c1 z1 c2 z2 c3 z3 c4 z4
          generalize (((((v87.setCell ⟨g85, 0, none⟩ (.bool true)).setCell ⟨g85, 1, none⟩ (.int .i64 v0)).setCell ⟨g85, 2, none⟩ (.int .i64 v1)).setCell ⟨g85, 3, none⟩ (.int .i64 v2)).setCell ⟨g85, 4, none⟩ (.int .i64 0)) = v89 at *
          refine hK.out _ _ ⟨e2.cell 0, e2.cell 1, e2.cell 2, e2.cell 3, e2.cell 4⟩ (fun hHeld => ?_)
          clear hK K
          try (simp only [Act.put, List.setIfInBounds_toArray, List.set_cons_zero, List.set_cons_succ])
          refine wpAnyH_done ?hru90 ?hqu90 _
          case hru90 => kernel_rfl
          refine NoPanic.normal ?_
          try go_wp2_with fail
          go_meet
          exact ⟨g85, rfl, by omega, n85, e2, hb⟩
      case hc76q9 =>
        go_simp
        try go_wp2_with fail
        have lb91 := hb.size
        have l91e2 := e2.lt
        replace e2 := e2.alloc (.cells #[.bool false, .int .i64 0, .int .i64 0, .int .i64 0, .int .i64 0] 62)
        have n91 := Blk.new v75 62 #[.bool false, .int .i64 0, .int .i64 0, .int .i64 0, .int .i64 0]
        replace hb := hb.alloc hb.size (.cells #[.bool false, .int .i64 0, .int .i64 0, .int .i64 0, .int .i64 0] 62)
        generalize v75.alloc (.cells #[.bool false, .int .i64 0, .int .i64 0, .int .i64 0, .int .i64 0] 62) = v91 at *
        have le2 := e2.lt
        generalize v75.heap.size = g91 at *
        refine hK.out _ _ ⟨e2.cell 0, e2.cell 1, e2.cell 2, e2.cell 3, e2.cell 4⟩ (fun hHeld => ?_)
        clear hK K
        try (simp only [Act.put, List.setIfInBounds_toArray, List.set_cons_zero, List.set_cons_succ])
        refine rd1 4 (fun K hK => ?_)
        go_simp
        refine (HP1.out _).mono ?_
        rintro e v93 ⟨rfl, bb⟩
        go_wp2_with fail
        replace e2 := e2.below bb e2.lt
        replace n91 := n91.below bb n91.lt
        replace hb := below24 hb bb
        clear bb
        refine hK.out _ _ ⟨e2.cell 0, e2.cell 1, e2.cell 2, e2.cell 3, e2.cell 4⟩ (fun hHeld => ?_)
        clear hK K
        try (simp only [Act.put, List.setIfInBounds_toArray, List.set_cons_zero, List.set_cons_succ])
        refine rd1 7 (fun K hK => ?_)
        go_simp
        refine (HP2.out _).mono ?_
        rintro e v95 ⟨rfl, bb⟩
        go_wp2_with fail
        replace e2 := e2.below bb e2.lt
        replace n91 := n91.below bb n91.lt
        replace hb := below24 hb bb
        clear bb
        refine hK.out _ _ ⟨e2.cell 0, e2.cell 1, e2.cell 2, e2.cell 3, e2.cell 4⟩ (fun hHeld => ?_)
        clear hK K
        try (simp only [Act.put, List.setIfInBounds_toArray, List.set_cons_zero, List.set_cons_succ])
        refine tk 8 hHeld ?_
        refine rd1 10 (fun K hK => ?_)
        have c0 : v95.cell? ⟨g91, 0, none⟩ = some (.bool false) := n91.cell 0
        have z0 := n91.frozen 0
        have c1 : v95.cell? ⟨g91, 1, none⟩ = some (.int .i64 0) := n91.cell 1
        have z1 := n91.frozen 1
        have c2 : v95.cell? ⟨g91, 2, none⟩ = some (.int .i64 0) := n91.cell 2
        have z2 := n91.frozen 2
        have c3 : v95.cell? ⟨g91, 3, none⟩ = some (.int .i64 0) := n91.cell 3
        have z3 := n91.frozen 3
        have c4 : v95.cell? ⟨g91, 4, none⟩ = some (.int .i64 0) := n91.cell 4
        have z4 := n91.frozen 4
        go_simp
        try go_wp2_with fail
        replace e2 := (((((e2.far (p := ⟨g91, 0, none⟩) (by dsimp only; omega) (.bool true)).far (p := ⟨g91, 1, none⟩) (by dsimp only; omega) (.int .i64 v0)).far (p := ⟨g91, 2, none⟩) (by dsimp only; omega) (.int .i64 v1)).far (p := ⟨g91, 3, none⟩) (by dsimp only; omega) (.int .i64 v2)).far (p := ⟨g91, 4, none⟩) (by dsimp only; omega) (.int .i64 0))
        replace n91 := (((((n91.set_ 0 (.bool true)).set_ 1 (.int .i64 v0)).set_ 2 (.int .i64 v1)).set_ 3 (.int .i64 v2)).set_ 4 (.int .i64 0))
        replace hb := (((((hb.setCell (p := ⟨g91, 0, none⟩) (by dsimp only; omega) (.bool true)).setCell (p := ⟨g91, 1, none⟩) (by dsimp only; omega) (.int .i64 v0)).setCell (p := ⟨g91, 2, none⟩) (by dsimp only; omega) (.int .i64 v1)).setCell (p := ⟨g91, 3, none⟩) (by dsimp only; omega) (.int .i64 v2)).setCell (p := ⟨g91, 4, none⟩) (by dsimp only; omega) (.int .i64 0))
        clear c0 z0 c1 z1 c2 z2 c3 z3 c4 z4
        generalize (((((v95.setCell ⟨g91, 0, none⟩ (.bool true)).setCell ⟨g91, 1, none⟩ (.int .i64 v0)).setCell ⟨g91, 2, none⟩ (.int .i64 v1)).setCell ⟨g91, 3, none⟩ (.int .i64 v2)).setCell ⟨g91, 4, none⟩ (.int .i64 0)) = v97 at *
        refine hK.out _ _ ⟨e2.cell 0, e2.cell 1, e2.cell 2, e2.cell 3, e2.cell 4⟩ (fun hHeld => ?_)
        clear hK K
        try (simp only [Act.put, List.setIfInBounds_toArray, List.set_cons_zero, List.set_cons_succ])
        refine wpAnyH_done ?hru98 ?hqu98 _
        case hru98 => kernel_rfl
        refine NoPanic.normal ?_
        try go_wp2_with fail
        go_meet
        exact ⟨g91, rfl, by omega, n91, e2, hb⟩
    case hc74q9 =>
      go_simp
      try go_wp2_with fail
      have lb99 := hb.size
      have l99e2 := e2.lt
      replace e2 := e2.alloc (.cells #[.bool false, .int .i64 0, .int .i64 0, .int .i64 0, .int .i64 0] 62)
      have n99 := Blk.new W73 62 #[.bool false, .int .i64 0, .int .i64 0, .int .i64 0, .int .i64 0]
      replace hb := hb.alloc hb.size (.cells #[.bool false, .int .i64 0, .int .i64 0, .int .i64 0, .int .i64 0] 62)
      generalize W73.alloc (.cells #[.bool false, .int .i64 0, .int .i64 0, .int .i64 0, .int .i64 0] 62) = v99 at *
      have le2 := e2.lt
      generalize W73.heap.size = g99 at *
      refine hK.out _ _ ⟨e2.cell 0, e2.cell 1, e2.cell 2, e2.cell 3, e2.cell 4⟩ (fun hHeld => ?_)
      clear hK K
      try (simp only [Act.put, List.setIfInBounds_toArray, List.set_cons_zero, List.set_cons_succ])
      refine rd1 1 (fun K hK => ?_)
      go_simp
      refine (HP0.out _).mono ?_
      rintro e v101 ⟨rfl, bb⟩
      go_wp2_with fail
      replace e2 := e2.below bb e2.lt
      replace n99 := n99.below bb n99.lt
      replace hb := below24 hb bb
      clear bb
      refine hK.out _ _ ⟨e2.cell 0, e2.cell 1, e2.cell 2, e2.cell 3, e2.cell 4⟩ (fun hHeld => ?_)
      clear hK K
      try (simp only [Act.put, List.setIfInBounds_toArray, List.set_cons_zero, List.set_cons_succ])
      refine rd1 4 (fun K hK => ?_)
      go_simp
      refine (HP1.out _).mono ?_
      rintro e v103 ⟨rfl, bb⟩
      go_wp2_with fail
      replace e2 := e2.below bb e2.lt
      replace n99 := n99.below bb n99.lt
      replace hb := below24 hb bb
      clear bb
      refine hK.out _ _ ⟨e2.cell 0, e2.cell 1, e2.cell 2, e2.cell 3, e2.cell 4⟩ (fun hHeld => ?_)
      clear hK K
      try (simp only [Act.put, List.setIfInBounds_toArray, List.set_cons_zero, List.set_cons_succ])
      refine rd1 7 (fun K hK => ?_)
      go_simp
      refine (HP2.out _).mono ?_
      rintro e v105 ⟨rfl, bb⟩
      go_wp2_with fail
      replace e2 := e2.below bb e2.lt
      replace n99 := n99.below bb n99.lt
      replace hb := below24 hb bb
      clear bb
      refine hK.out _ _ ⟨e2.cell 0, e2.cell 1, e2.cell 2, e2.cell 3, e2.cell 4⟩ (fun hHeld => ?_)
      clear hK K
      try (simp only [Act.put, List.setIfInBounds_toArray, List.set_cons_zero, List.set_cons_succ])
      refine tk 8 hHeld ?_
      refine rd1 10 (fun K hK => ?_)
      have c0 : v105.cell? ⟨g99, 0, none⟩ = some (.bool false) := n99.cell 0
      have z0 := n99.frozen 0
      have c1 : v105.cell? ⟨g99, 1, none⟩ = some (.int .i64 0) := n99.cell 1
      have z1 := n99.frozen 1
      have c2 : v105.cell? ⟨g99, 2, none⟩ = some (.int .i64 0) := n99.cell 2
      have z2 := n99.frozen 2
      have c3 : v105.cell? ⟨g99, 3, none⟩ = some (.int .i64 0) := n99.cell 3
      have z3 := n99.frozen 3
      have c4 : v105.cell? ⟨g99, 4, none⟩ = some (.int .i64 0) := n99.cell 4
      have z4 := n99.frozen 4
      go_simp
      try go_wp2_with fail
      replace e2 := (((((e2.far (p := ⟨g99, 0, none⟩) (by dsimp only; omega) (.bool true)).far (p := ⟨g99, 1, none⟩) (by dsimp only; omega) (.int .i64 v0)).far (p := ⟨g99, 2, none⟩) (by dsimp only; omega) (.int .i64 v1)).far (p := ⟨g99, 3, none⟩) (by dsimp only; omega) (.int .i64 v2)).far (p := ⟨g99, 4, none⟩) (by dsimp only; omega) (.int .i64 0))
      replace n99 := (((((n99.set_ 0 (.bool true)).set_ 1 (.int .i64 v0)).set_ 2 (.int .i64 v1)).set_ 3 (.int .i64 v2)).set_ 4 (.int .i64 0))
      replace hb := (((((hb.setCell (p := ⟨g99, 0, none⟩) (by dsimp only; omega) (.bool true)).setCell (p := ⟨g99, 1, none⟩) (by dsimp only; omega) (.int .i64 v0)).setCell (p := ⟨g99, 2, none⟩) (by dsimp only; omega) (.int .i64 v1)).setCell (p := ⟨g99, 3, none⟩) (by dsimp only; omega) (.int .i64 v2)).setCell (p := ⟨g99, 4, none⟩) (by dsimp only; omega) (.int .i64 0))
      clear c0 z0 c1 z1 c2 z2 c3 z3 c4 z4
      generalize (((((v105.setCell ⟨g99, 0, none⟩ (.bool true)).setCell ⟨g99, 1, none⟩ (.int .i64 v0)).setCell ⟨g99, 2, none⟩ (.int .i64 v1)).setCell ⟨g99, 3, none⟩ (.int .i64 v2)).setCell ⟨g99, 4, none⟩ (.int .i64 0)) = v107 at *
      refine hK.out _ _ ⟨e2.cell 0, e2.cell 1, e2.cell 2, e2.cell 3, e2.cell 4⟩ (fun hHeld => ?_)
      clear hK K
      try (simp only [Act.put, List.setIfInBounds_toArray, List.set_cons_zero, List.set_cons_succ])
      refine wpAnyH_done ?hru108 ?hqu108 _
      case hru108 => kernel_rfl
      refine NoPanic.normal ?_
      try go_wp2_with fail
      go_meet
      exact ⟨g99, rfl, by omega, n99, e2, hb⟩
  case rest =>
    clear e2 hb
    obtain ⟨g, rfl, hlg, e4, e2, hb⟩ := hcut
    go_wp2_with fail
    refine (HP7.out _).mono ?_
    rintro e w5 ⟨rfl, b5⟩
    replace e4 := e4.below b5 (by have := e2.lt; have := hb.size; have := e4.lt; omega)
    replace e2 := e2.below b5 e2.lt
    replace hb := below24 hb b5
    have k4 : w5.cell? ⟨g, 4, none⟩ = some (.int .i64 0) := e4.cell 4
    have y4 := e4.frozen 4
    go_upto_region 10 with (fail)
    replace e4 := e4.set_ 4 (.int .i64 (10 * D7 + D8))
    replace e2 := e2.far (p := ⟨g, 4, none⟩) (by dsimp only; omega) (.int .i64 (10 * D7 + D8))
    replace hb := hb.setCell (p := ⟨g, 4, none⟩) (by dsimp only; omega) (.int .i64 (10 * D7 + D8))
    clear k4 y4
    generalize w5.setCell ⟨g, 4, none⟩ (.int .i64 (10 * D7 + D8)) = W5 at *
    have k0 : (W5).cell? ⟨g, 0, none⟩ = some (.bool true) := e4.cell 0
    have k1 : (W5).cell? ⟨g, 1, none⟩ = some (.int .i64 v0) := e4.cell 1
    have k2 : (W5).cell? ⟨g, 2, none⟩ = some (.int .i64 v1) := e4.cell 2
    have k3 : (W5).cell? ⟨g, 3, none⟩ = some (.int .i64 v2) := e4.cell 3
    have k4 : (W5).cell? ⟨g, 4, none⟩ = some (.int .i64 (10 * D7 + D8)) := e4.cell 4
    go_wp2_with fail
    clear k0 k1 k2 k3 k4
    refine (HMY.out _).mono ?_
    rintro e w6 ⟨rfl, b6⟩
    replace e4 := e4.below b6 e4.lt
    replace e2 := e2.below b6 e2.lt
    replace hb := below24 hb b6
    cases my
    · have HC : Hid (takeC s = .agg #[.bool false, .int .i64 0, .int .i64 0, .int .i64 0, .int .i64 0]) := hid (by rw [HC0.out, HM.out, if_neg (by simp)])
      have HE : Hid (takeE s = 5) := hid (by rw [HE0.out, HM.out]; rfl)
      go_upto_region 11 with (fail)
      have c0 : (w6).cell? ⟨w.heap.size, 0, none⟩ = some (.bool false) := e2.cell 0
      have c1 : (w6).cell? ⟨w.heap.size, 1, none⟩ = some (.int .i64 0) := e2.cell 1
      have c2 : (w6).cell? ⟨w.heap.size, 2, none⟩ = some (.int .i64 0) := e2.cell 2
      have c3 : (w6).cell? ⟨w.heap.size, 3, none⟩ = some (.int .i64 0) := e2.cell 3
      have c4 : (w6).cell? ⟨w.heap.size, 4, none⟩ = some (.int .i64 0) := e2.cell 4
      have z0 := e2.frozen 0
      have z1 := e2.frozen 1
      have z2 := e2.frozen 2
      have z3 := e2.frozen 3
      have z4 := e2.frozen 4
      go_wp2_with fail
      have t2 := (((((e2.set_ 0 (.bool false)).set_ 1 (.int .i64 0)).set_ 2 (.int .i64 0)).set_ 3 (.int .i64 0)).set_ 4 (.int .i64 0))
      have tb := (((((hb.setCell (p := ⟨w.heap.size, 0, none⟩) (by simp) (.bool false)).setCell (p := ⟨w.heap.size, 1, none⟩) (by simp) (.int .i64 0)).setCell (p := ⟨w.heap.size, 2, none⟩) (by simp) (.int .i64 0)).setCell (p := ⟨w.heap.size, 3, none⟩) (by simp) (.int .i64 0)).setCell (p := ⟨w.heap.size, 4, none⟩) (by simp) (.int .i64 0))
      refine bodyPost_ret (rtk_results _ _ w.heap.size _ _ _ _ _ _ rfl rfl t2) rfl ⟨?_, tb⟩
      rw [HC.out, HE.out]
      rfl
    · have HC : Hid (takeC s = .agg #[.bool true, .int .i64 v0, .int .i64 v1, .int .i64 v2, .int .i64 (10 * D7 + D8)]) := hid (by rw [HC0.out, HM.out, if_pos rfl])
      have HE : Hid (takeE s = 0) := hid (by rw [HE0.out, HM.out]; rfl)
      go_upto_region 12 with (fail)
      have k0 : (w6).cell? ⟨g, 0, none⟩ = some (.bool true) := e4.cell 0
      have k1 : (w6).cell? ⟨g, 1, none⟩ = some (.int .i64 v0) := e4.cell 1
      have k2 : (w6).cell? ⟨g, 2, none⟩ = some (.int .i64 v1) := e4.cell 2
      have k3 : (w6).cell? ⟨g, 3, none⟩ = some (.int .i64 v2) := e4.cell 3
      have k4 : (w6).cell? ⟨g, 4, none⟩ = some (.int .i64 (10 * D7 + D8)) := e4.cell 4
      have c0 : (w6).cell? ⟨w.heap.size, 0, none⟩ = some (.bool false) := e2.cell 0
      have c1 : (w6).cell? ⟨w.heap.size, 1, none⟩ = some (.int .i64 0) := e2.cell 1
      have c2 : (w6).cell? ⟨w.heap.size, 2, none⟩ = some (.int .i64 0) := e2.cell 2
      have c3 : (w6).cell? ⟨w.heap.size, 3, none⟩ = some (.int .i64 0) := e2.cell 3
      have c4 : (w6).cell? ⟨w.heap.size, 4, none⟩ = some (.int .i64 0) := e2.cell 4
      have z0 := e2.frozen 0
      have z1 := e2.frozen 1
      have z2 := e2.frozen 2
      have z3 := e2.frozen 3
      have z4 := e2.frozen 4
      go_wp2_with fail
      have t2 := (((((e2.set_ 0 (.bool true)).set_ 1 (.int .i64 v0)).set_ 2 (.int .i64 v1)).set_ 3 (.int .i64 v2)).set_ 4 (.int .i64 (10 * D7 + D8)))
      have tb := (((((hb.setCell (p := ⟨w.heap.size, 0, none⟩) (by simp) (.bool true)).setCell (p := ⟨w.heap.size, 1, none⟩) (by simp) (.int .i64 v0)).setCell (p := ⟨w.heap.size, 2, none⟩) (by simp) (.int .i64 v1)).setCell (p := ⟨w.heap.size, 3, none⟩) (by simp) (.int .i64 v2)).setCell (p := ⟨w.heap.size, 4, none⟩) (by simp) (.int .i64 (10 * D7 + D8)))
      refine bodyPost_ret (rtk_results _ _ w.heap.size _ _ _ _ _ _ rfl rfl t2) rfl ⟨?_, tb⟩
      rw [HC.out, HE.out]
      rfl
theorem r_Take (s : ByteArray) (w : World) (hs : s.size ≤ 100) : Calls Try.prog 46 #[.string s] w (Taken s w) := by
  by_cases h0 : s.size = 0
  · exact r_take0 s w hs h0
  · by_cases h6 : s.size < 6
    · exact r_takeS s w hs (by omega) h6
    · cases HD : digsB (s.extract 0 6)
      · exact r_takeH s w hs (by omega) HD
      · by_cases e6 : s.size = 6
        · exact r_takeG6 s w hs e6 HD
        · by_cases h46 : byteP s 6 = 46
          · by_cases e7 : s.size = 7
            · exact r_take7 s w hs e7 HD h46
            · by_cases h10 : 9 < s.size
              · exact r_take10 s w hs h10 HD h46
              · by_cases e8 : s.size = 8
                · cases HD7 : digsB (s.extract 7 8)
                  · exact r_takeD8 s w hs e8 HD h46 HD7
                  · exact r_takeG8 s w hs e8 HD h46 HD7
                · have e9 : s.size = 9 := by omega
                  cases HD7 : digsB (s.extract 7 9)
                  · exact r_takeD9 s w hs e9 HD h46 HD7
                  · exact r_takeG9 s w hs e9 HD h46 HD7
          · exact r_takeP s w hs (by omega) HD h46
end Go.Proofs.Ytbhfidneijogfaa
