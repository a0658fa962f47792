/- Chapter 24: what must come; the walk of ClockCounts. -/
import Derived.Test.YtbhfidneijogfaaClkJ
namespace Go.Proofs.Ytbhfidneijogfaa
open Go.RowKit
set_option linter.unusedVariables false
set_option linter.unusedSimpArgs false
attribute [local go_sem] Oper.semAt_some
theorem below24 {w0 w w' : World} (h : Below w0.heap.size w0 w) (k : Below w.heap.size w w') : Below w0.heap.size w0 w' := h.trans (k.mono h.size)
theorem l24_num (n : Int) (w : World) : Calls Try.prog 47 #[.int .i64 n] w fun e w' => e = .returned (.int .i64 n) ∧ w = w' := by
  go_enter Try.func47, Try.ntmps47
  go_wp2
  go_ret
  exact ⟨rfl, rfl⟩
def exS : ByteArray := { data := #[49, 50, 51, 53, 49, 57] }
theorem take_example (w : World) : Calls Try.prog 45 #[.string exS] w fun e w' => e = .returned (.tuple #[.agg #[.bool true, .int .i64 12, .int .i64 35, .int .i64 19, .int .i64 0], .int .i64 0]) ∧ Below w.heap.size w w' := by
  have h := c_Take exS w (by decide +kernel)
  unfold Taken at h
  have b1 : tkB exS = true := by decide +kernel
  have b2 : tkM exS = true := by decide +kernel
  have k0 : tkH exS 0 = 12 := by decide +kernel
  have k1 : tkH exS 1 = 35 := by decide +kernel
  have k2 : tkH exS 2 = 19 := by decide +kernel
  have k3 : (behP (tailS exS)).1 = 0 := by decide +kernel
  have e1 : takeC exS = .agg #[.bool true, .int .i64 12, .int .i64 35, .int .i64 19, .int .i64 0] := by unfold takeC; rw [if_pos ⟨by decide +kernel, b1, b2⟩, k0, k1, k2, k3]
  have e2 : takeE exS = 0 := by unfold takeE; rw [b1, b2]; rfl
  rw [e1, e2] at h
  exact h
theorem of_example (w : World) : Calls Try.prog 40 #[.int .i64 0] w fun e w' => e = .returned (.tuple #[.agg #[.bool true, .int .i64 1, .int .i64 1, .int .i64 2000], .agg #[.bool true, .int .i64 0, .int .i64 0, .int .i64 0, .int .i64 0], .bool true]) ∧ Below w.heap.size w w' := by
  refine (c_Of 0 w (by unfold I64; omega)).mono fun e w' h => ?_
  rcases h with ⟨h, _⟩ | ⟨_, d, m, y, hd, hr, rfl, hb⟩
  · exact absurd h (by decide)
  · have h1 : isDay 1 1 2000 := ⟨by omega, by omega, by omega, by decide +kernel⟩
    obtain ⟨rfl, rfl, rfl⟩ := rank_one d m y 1 1 2000 hd h1 (by rw [hr]; decide +kernel)
    exact ⟨rfl, hb⟩
set_option maxRecDepth 20000 in
set_option maxHeartbeats 4000000 in
theorem law24_knows (w : World) : Calls Try.prog 42 #[] w fun e w' => e = .returned (.bool true) ∧ Below w.heap.size w w' := by
  have H1 := hid take_example
  have H2 := hid of_example
  go_enter Try.func42, Try.ntmps42
  go_wp2_with fail
  refine (H1.out _).mono ?_
  rintro e w1 ⟨rfl, hb⟩
  have ek := Blk.new w1 62 #[.bool true, .int .i64 12, .int .i64 35, .int .i64 19, .int .i64 0]
  replace hb := hb.alloc hb.size (.cells #[.bool true, .int .i64 12, .int .i64 35, .int .i64 19, .int .i64 0] 62)
  go_wp2_with fail
  generalize w1.alloc (.cells #[.bool true, .int .i64 12, .int .i64 35, .int .i64 19, .int .i64 0] 62) = W1 at *
  generalize w1.heap.size = g1 at *
  refine (H2.out _).mono ?_
  rintro e w2 ⟨rfl, b2⟩
  replace hb := below24 hb b2
  replace ek := ((ek.below b2 ek.lt).alloc (.cells #[.bool true, .int .i64 1, .int .i64 1, .int .i64 2000] 60)).alloc (.cells #[.bool true, .int .i64 0, .int .i64 0, .int .i64 0, .int .i64 0] 62)
  have ed := (Blk.new w2 60 #[.bool true, .int .i64 1, .int .i64 1, .int .i64 2000]).alloc (.cells #[.bool true, .int .i64 0, .int .i64 0, .int .i64 0, .int .i64 0] 62)
  have ec := Blk.new (w2.alloc (.cells #[.bool true, .int .i64 1, .int .i64 1, .int .i64 2000] 60)) 62 #[.bool true, .int .i64 0, .int .i64 0, .int .i64 0, .int .i64 0]
  simp only [World.size_alloc] at ec
  have hsz := hb.size
  replace hb := (hb.alloc hb.size (.cells #[.bool true, .int .i64 1, .int .i64 1, .int .i64 2000] 60)).alloc (by simp; omega) (.cells #[.bool true, .int .i64 0, .int .i64 0, .int .i64 0, .int .i64 0] 62)
  have f0 : ((w2.alloc (.cells #[.bool true, .int .i64 1, .int .i64 1, .int .i64 2000] 60)).alloc (.cells #[.bool true, .int .i64 0, .int .i64 0, .int .i64 0, .int .i64 0] 62)).cell? ⟨g1, 0, none⟩ = some (.bool true) := ek.cell 0
  have f1 : ((w2.alloc (.cells #[.bool true, .int .i64 1, .int .i64 1, .int .i64 2000] 60)).alloc (.cells #[.bool true, .int .i64 0, .int .i64 0, .int .i64 0, .int .i64 0] 62)).cell? ⟨g1, 1, none⟩ = some (.int .i64 12) := ek.cell 1
  have f2 : ((w2.alloc (.cells #[.bool true, .int .i64 1, .int .i64 1, .int .i64 2000] 60)).alloc (.cells #[.bool true, .int .i64 0, .int .i64 0, .int .i64 0, .int .i64 0] 62)).cell? ⟨g1, 2, none⟩ = some (.int .i64 35) := ek.cell 2
  have f3 : ((w2.alloc (.cells #[.bool true, .int .i64 1, .int .i64 1, .int .i64 2000] 60)).alloc (.cells #[.bool true, .int .i64 0, .int .i64 0, .int .i64 0, .int .i64 0] 62)).cell? ⟨g1, 3, none⟩ = some (.int .i64 19) := ek.cell 3
  have f4 : ((w2.alloc (.cells #[.bool true, .int .i64 1, .int .i64 1, .int .i64 2000] 60)).alloc (.cells #[.bool true, .int .i64 0, .int .i64 0, .int .i64 0, .int .i64 0] 62)).cell? ⟨g1, 4, none⟩ = some (.int .i64 0) := ek.cell 4
  have k0 : ((w2.alloc (.cells #[.bool true, .int .i64 1, .int .i64 1, .int .i64 2000] 60)).alloc (.cells #[.bool true, .int .i64 0, .int .i64 0, .int .i64 0, .int .i64 0] 62)).cell? ⟨w2.heap.size, 0, none⟩ = some (.bool true) := ed.cell 0
  have k1 : ((w2.alloc (.cells #[.bool true, .int .i64 1, .int .i64 1, .int .i64 2000] 60)).alloc (.cells #[.bool true, .int .i64 0, .int .i64 0, .int .i64 0, .int .i64 0] 62)).cell? ⟨w2.heap.size, 1, none⟩ = some (.int .i64 1) := ed.cell 1
  have k2 : ((w2.alloc (.cells #[.bool true, .int .i64 1, .int .i64 1, .int .i64 2000] 60)).alloc (.cells #[.bool true, .int .i64 0, .int .i64 0, .int .i64 0, .int .i64 0] 62)).cell? ⟨w2.heap.size, 2, none⟩ = some (.int .i64 1) := ed.cell 2
  have k3 : ((w2.alloc (.cells #[.bool true, .int .i64 1, .int .i64 1, .int .i64 2000] 60)).alloc (.cells #[.bool true, .int .i64 0, .int .i64 0, .int .i64 0, .int .i64 0] 62)).cell? ⟨w2.heap.size, 3, none⟩ = some (.int .i64 2000) := ed.cell 3
  have q0 : ((w2.alloc (.cells #[.bool true, .int .i64 1, .int .i64 1, .int .i64 2000] 60)).alloc (.cells #[.bool true, .int .i64 0, .int .i64 0, .int .i64 0, .int .i64 0] 62)).cell? ⟨w2.heap.size + 1, 0, none⟩ = some (.bool true) := ec.cell 0
  have q1 : ((w2.alloc (.cells #[.bool true, .int .i64 1, .int .i64 1, .int .i64 2000] 60)).alloc (.cells #[.bool true, .int .i64 0, .int .i64 0, .int .i64 0, .int .i64 0] 62)).cell? ⟨w2.heap.size + 1, 1, none⟩ = some (.int .i64 0) := ec.cell 1
  have q2 : ((w2.alloc (.cells #[.bool true, .int .i64 1, .int .i64 1, .int .i64 2000] 60)).alloc (.cells #[.bool true, .int .i64 0, .int .i64 0, .int .i64 0, .int .i64 0] 62)).cell? ⟨w2.heap.size + 1, 2, none⟩ = some (.int .i64 0) := ec.cell 2
  have q3 : ((w2.alloc (.cells #[.bool true, .int .i64 1, .int .i64 1, .int .i64 2000] 60)).alloc (.cells #[.bool true, .int .i64 0, .int .i64 0, .int .i64 0, .int .i64 0] 62)).cell? ⟨w2.heap.size + 1, 3, none⟩ = some (.int .i64 0) := ec.cell 3
  have q4 : ((w2.alloc (.cells #[.bool true, .int .i64 1, .int .i64 1, .int .i64 2000] 60)).alloc (.cells #[.bool true, .int .i64 0, .int .i64 0, .int .i64 0, .int .i64 0] 62)).cell? ⟨w2.heap.size + 1, 4, none⟩ = some (.int .i64 0) := ec.cell 4
  go_wp2_with (go_at_call 47; refine (l24_num _ _).mono ?_; rintro e w' ⟨rfl, rfl⟩)
  go_ret
  exact ⟨rfl, hb⟩
def RV (r : Int) : Array Value := #[.bool true, .int .i64 (r / 360000), .int .i64 (r % 360000 / 6000), .int .i64 (r % 6000 / 100), .int .i64 (r % 100)]
set_option maxRecDepth 20000 in
set_option maxHeartbeats 8000000 in
theorem clockCounts_walk (i : Bool) (d m y : Int) (j : Bool) (h mi s c n : Int) (w : World) (wd : (Lit.int .i64 d).wf = true) (wm : (Lit.int .i64 m).wf = true) (wy : (Lit.int .i64 y).wf = true) (wh : (Lit.int .i64 h).wf = true) (wmi : (Lit.int .i64 mi).wf = true) (ws : (Lit.int .i64 s).wf = true) (wc : (Lit.int .i64 c).wf = true) (wn : (Lit.int .i64 n).wf = true) :
    Calls Try.prog 9 #[.agg #[.bool i, .int .i64 d, .int .i64 m, .int .i64 y], .agg #[.bool j, .int .i64 h, .int .i64 mi, .int .i64 s, .int .i64 c], .int .i64 n] w fun e w' => e = .returned (.bool true) ∧ Below w.heap.size w w' := by
  have im : I64 m := bounds_i64 wm
  have iy : I64 y := bounds_i64 wy
  have inn : I64 n := bounds_i64 wn
  clear wd wm wy wh wmi ws wc wn
  have h1 := fun w => c_Count i d m y j h mi s c w im iy
  have h2 := fun w => r_Count i d m y j h mi s c w im iy
  generalize countN i d m y j h mi s c = N at *
  generalize countB i d m y j h mi s c = B at *
  have H1 := hid h1
  have H2 := hid h2
  have H3 := hid fun w => c_Of n w inn
  have H4 := hid fun w => r_Of n w inn
  have HK := hid law24_knows
  clear h1 h2 im iy inn
  have hp := (Blk.new w 60 #[.bool i, .int .i64 d, .int .i64 m, .int .i64 y]).alloc (.cells #[.bool j, .int .i64 h, .int .i64 mi, .int .i64 s, .int .i64 c] 62)
  have hq := Blk.new (w.alloc (.cells #[.bool i, .int .i64 d, .int .i64 m, .int .i64 y] 60)) 62 #[.bool j, .int .i64 h, .int .i64 mi, .int .i64 s, .int .i64 c]
  simp only [World.size_alloc] at hq
  have hb := ((Below.refl w.heap.size w).alloc (Nat.le_refl _) (.cells #[.bool i, .int .i64 d, .int .i64 m, .int .i64 y] 60)).alloc (by simp) (.cells #[.bool j, .int .i64 h, .int .i64 mi, .int .i64 s, .int .i64 c] 62)
  have f0 : ((w.alloc (.cells #[.bool i, .int .i64 d, .int .i64 m, .int .i64 y] 60)).alloc (.cells #[.bool j, .int .i64 h, .int .i64 mi, .int .i64 s, .int .i64 c] 62)).cell? ⟨w.heap.size, 0, none⟩ = some (.bool i) := hp.cell 0
  have f1 : ((w.alloc (.cells #[.bool i, .int .i64 d, .int .i64 m, .int .i64 y] 60)).alloc (.cells #[.bool j, .int .i64 h, .int .i64 mi, .int .i64 s, .int .i64 c] 62)).cell? ⟨w.heap.size, 1, none⟩ = some (.int .i64 d) := hp.cell 1
  have f2 : ((w.alloc (.cells #[.bool i, .int .i64 d, .int .i64 m, .int .i64 y] 60)).alloc (.cells #[.bool j, .int .i64 h, .int .i64 mi, .int .i64 s, .int .i64 c] 62)).cell? ⟨w.heap.size, 2, none⟩ = some (.int .i64 m) := hp.cell 2
  have f3 : ((w.alloc (.cells #[.bool i, .int .i64 d, .int .i64 m, .int .i64 y] 60)).alloc (.cells #[.bool j, .int .i64 h, .int .i64 mi, .int .i64 s, .int .i64 c] 62)).cell? ⟨w.heap.size, 3, none⟩ = some (.int .i64 y) := hp.cell 3
  have k0 : ((w.alloc (.cells #[.bool i, .int .i64 d, .int .i64 m, .int .i64 y] 60)).alloc (.cells #[.bool j, .int .i64 h, .int .i64 mi, .int .i64 s, .int .i64 c] 62)).cell? ⟨w.heap.size + 1, 0, none⟩ = some (.bool j) := hq.cell 0
  have k1 : ((w.alloc (.cells #[.bool i, .int .i64 d, .int .i64 m, .int .i64 y] 60)).alloc (.cells #[.bool j, .int .i64 h, .int .i64 mi, .int .i64 s, .int .i64 c] 62)).cell? ⟨w.heap.size + 1, 1, none⟩ = some (.int .i64 h) := hq.cell 1
  have k2 : ((w.alloc (.cells #[.bool i, .int .i64 d, .int .i64 m, .int .i64 y] 60)).alloc (.cells #[.bool j, .int .i64 h, .int .i64 mi, .int .i64 s, .int .i64 c] 62)).cell? ⟨w.heap.size + 1, 2, none⟩ = some (.int .i64 mi) := hq.cell 2
  have k3 : ((w.alloc (.cells #[.bool i, .int .i64 d, .int .i64 m, .int .i64 y] 60)).alloc (.cells #[.bool j, .int .i64 h, .int .i64 mi, .int .i64 s, .int .i64 c] 62)).cell? ⟨w.heap.size + 1, 3, none⟩ = some (.int .i64 s) := hq.cell 3
  have k4 : ((w.alloc (.cells #[.bool i, .int .i64 d, .int .i64 m, .int .i64 y] 60)).alloc (.cells #[.bool j, .int .i64 h, .int .i64 mi, .int .i64 s, .int .i64 c] 62)).cell? ⟨w.heap.size + 1, 4, none⟩ = some (.int .i64 c) := hq.cell 4
  go_enter Try.func9, Try.ntmps9
  go_wp2_with fail
  clear f0 f1 f2 f3 k0 k1 k2 k3 k4
  generalize (w.alloc (.cells #[.bool i, .int .i64 d, .int .i64 m, .int .i64 y] 60)).alloc (.cells #[.bool j, .int .i64 h, .int .i64 mi, .int .i64 s, .int .i64 c] 62) = W0 at *
  refine (H1.out _).mono ?_
  rintro e w1 ⟨rfl, b1⟩
  replace hp := hp.below b1 hp.lt
  replace hq := hq.below b1 hq.lt
  replace hb := below24 hb b1
  have f0 : (w1).cell? ⟨w.heap.size, 0, none⟩ = some (.bool i) := hp.cell 0
  have f1 : (w1).cell? ⟨w.heap.size, 1, none⟩ = some (.int .i64 d) := hp.cell 1
  have f2 : (w1).cell? ⟨w.heap.size, 2, none⟩ = some (.int .i64 m) := hp.cell 2
  have f3 : (w1).cell? ⟨w.heap.size, 3, none⟩ = some (.int .i64 y) := hp.cell 3
  have k0 : (w1).cell? ⟨w.heap.size + 1, 0, none⟩ = some (.bool j) := hq.cell 0
  have k1 : (w1).cell? ⟨w.heap.size + 1, 1, none⟩ = some (.int .i64 h) := hq.cell 1
  have k2 : (w1).cell? ⟨w.heap.size + 1, 2, none⟩ = some (.int .i64 mi) := hq.cell 2
  have k3 : (w1).cell? ⟨w.heap.size + 1, 3, none⟩ = some (.int .i64 s) := hq.cell 3
  have k4 : (w1).cell? ⟨w.heap.size + 1, 4, none⟩ = some (.int .i64 c) := hq.cell 4
  go_wp2_with fail
  clear f0 f1 f2 f3 k0 k1 k2 k3 k4
  refine (H2.out _).mono ?_
  rintro e w2 ⟨rfl, b2⟩
  replace hb := below24 hb b2
  clear hp hq b1 b2
  have nn : (N == N) = true := by simp
  have bb : (B == B) = true := by simp
  go_wp2_with fail
  refine (H3.out _).mono ?_
  rintro e w3 h3
  have key : ∃ (i1 : Bool) (d1 m1 y1 : Int) (j1 : Bool) (a1 a2 a3 a4 : Int) (ok : Bool), e = .returned (.tuple #[.agg #[.bool i1, .int .i64 d1, .int .i64 m1, .int .i64 y1], .agg #[.bool j1, .int .i64 a1, .int .i64 a2, .int .i64 a3, .int .i64 a4], .bool ok]) ∧ Below w2.heap.size w2 w3 ∧
      Hid (∀ w e w', Dated n w e w' → e = .returned (.tuple #[.agg #[.bool i1, .int .i64 d1, .int .i64 m1, .int .i64 y1], .agg #[.bool j1, .int .i64 a1, .int .i64 a2, .int .i64 a3, .int .i64 a4], .bool ok]) ∧ Below w.heap.size w w') := by
    rcases h3 with ⟨g, rfl, hb3⟩ | ⟨g, d1, m1, y1, hd, hr, rfl, hb3⟩
    · refine ⟨false, 0, 0, 0, false, 0, 0, 0, 0, false, rfl, hb3, hid fun w e w' h => ?_⟩
      rcases h with ⟨_, rfl, hb⟩ | ⟨g2, _⟩
      · exact ⟨rfl, hb⟩
      · rw [g] at g2; cases g2
    · refine ⟨true, d1, m1, y1, true, _, _, _, _, true, rfl, hb3, hid fun w e w' h => ?_⟩
      rcases h with ⟨g2, _⟩ | ⟨_, d2, m2, y2, hd2, hr2, rfl, hb⟩
      · rw [g] at g2; cases g2
      · obtain ⟨rfl, rfl, rfl⟩ := rank_one d2 m2 y2 d1 m1 y1 hd2 hd (by rw [hr, hr2])
        exact ⟨rfl, hb⟩
  clear h3
  obtain ⟨i1, d1, m1, y1, j1, a1, a2, a3, a4, ok, rfl, b3, HD⟩ := key
  replace hb := below24 hb b3
  have hsz3 := hb.size
  have ed := (Blk.new w3 60 #[.bool i1, .int .i64 d1, .int .i64 m1, .int .i64 y1]).alloc (.cells #[.bool j1, .int .i64 a1, .int .i64 a2, .int .i64 a3, .int .i64 a4] 62)
  have ec := Blk.new (w3.alloc (.cells #[.bool i1, .int .i64 d1, .int .i64 m1, .int .i64 y1] 60)) 62 #[.bool j1, .int .i64 a1, .int .i64 a2, .int .i64 a3, .int .i64 a4]
  simp only [World.size_alloc] at ec
  replace hb := (hb.alloc hb.size (.cells #[.bool i1, .int .i64 d1, .int .i64 m1, .int .i64 y1] 60)).alloc (by simp; omega) (.cells #[.bool j1, .int .i64 a1, .int .i64 a2, .int .i64 a3, .int .i64 a4] 62)
  go_wp2_with fail
  generalize (w3.alloc (.cells #[.bool i1, .int .i64 d1, .int .i64 m1, .int .i64 y1] 60)).alloc (.cells #[.bool j1, .int .i64 a1, .int .i64 a2, .int .i64 a3, .int .i64 a4] 62) = V3 at *
  generalize w3.heap.size = g3 at *
  refine (H4.out _).mono ?_
  rintro e w4 h4
  obtain ⟨rfl, b4⟩ := HD.out _ _ _ h4
  replace hb := below24 hb b4
  have hsz4 := hb.size
  replace ed := ((ed.below b4 ed.lt).alloc (.cells #[.bool i1, .int .i64 d1, .int .i64 m1, .int .i64 y1] 60)).alloc (.cells #[.bool j1, .int .i64 a1, .int .i64 a2, .int .i64 a3, .int .i64 a4] 62)
  replace ec := ((ec.below b4 ec.lt).alloc (.cells #[.bool i1, .int .i64 d1, .int .i64 m1, .int .i64 y1] 60)).alloc (.cells #[.bool j1, .int .i64 a1, .int .i64 a2, .int .i64 a3, .int .i64 a4] 62)
  have fd := (Blk.new w4 60 #[.bool i1, .int .i64 d1, .int .i64 m1, .int .i64 y1]).alloc (.cells #[.bool j1, .int .i64 a1, .int .i64 a2, .int .i64 a3, .int .i64 a4] 62)
  have fc := Blk.new (w4.alloc (.cells #[.bool i1, .int .i64 d1, .int .i64 m1, .int .i64 y1] 60)) 62 #[.bool j1, .int .i64 a1, .int .i64 a2, .int .i64 a3, .int .i64 a4]
  simp only [World.size_alloc] at fc
  replace hb := (hb.alloc hb.size (.cells #[.bool i1, .int .i64 d1, .int .i64 m1, .int .i64 y1] 60)).alloc (by simp; omega) (.cells #[.bool j1, .int .i64 a1, .int .i64 a2, .int .i64 a3, .int .i64 a4] 62)
  have ii : (i1 == i1) = true := by simp
  have jj : (j1 == j1) = true := by simp
  have oo : (ok == ok) = true := by simp
  have p0 : ((w4.alloc (.cells #[.bool i1, .int .i64 d1, .int .i64 m1, .int .i64 y1] 60)).alloc (.cells #[.bool j1, .int .i64 a1, .int .i64 a2, .int .i64 a3, .int .i64 a4] 62)).cell? ⟨g3, 0, none⟩ = some (.bool i1) := ed.cell 0
  have p1 : ((w4.alloc (.cells #[.bool i1, .int .i64 d1, .int .i64 m1, .int .i64 y1] 60)).alloc (.cells #[.bool j1, .int .i64 a1, .int .i64 a2, .int .i64 a3, .int .i64 a4] 62)).cell? ⟨g3, 1, none⟩ = some (.int .i64 d1) := ed.cell 1
  have p2 : ((w4.alloc (.cells #[.bool i1, .int .i64 d1, .int .i64 m1, .int .i64 y1] 60)).alloc (.cells #[.bool j1, .int .i64 a1, .int .i64 a2, .int .i64 a3, .int .i64 a4] 62)).cell? ⟨g3, 2, none⟩ = some (.int .i64 m1) := ed.cell 2
  have p3 : ((w4.alloc (.cells #[.bool i1, .int .i64 d1, .int .i64 m1, .int .i64 y1] 60)).alloc (.cells #[.bool j1, .int .i64 a1, .int .i64 a2, .int .i64 a3, .int .i64 a4] 62)).cell? ⟨g3, 3, none⟩ = some (.int .i64 y1) := ed.cell 3
  have q0 : ((w4.alloc (.cells #[.bool i1, .int .i64 d1, .int .i64 m1, .int .i64 y1] 60)).alloc (.cells #[.bool j1, .int .i64 a1, .int .i64 a2, .int .i64 a3, .int .i64 a4] 62)).cell? ⟨g3 + 1, 0, none⟩ = some (.bool j1) := ec.cell 0
  have q1 : ((w4.alloc (.cells #[.bool i1, .int .i64 d1, .int .i64 m1, .int .i64 y1] 60)).alloc (.cells #[.bool j1, .int .i64 a1, .int .i64 a2, .int .i64 a3, .int .i64 a4] 62)).cell? ⟨g3 + 1, 1, none⟩ = some (.int .i64 a1) := ec.cell 1
  have q2 : ((w4.alloc (.cells #[.bool i1, .int .i64 d1, .int .i64 m1, .int .i64 y1] 60)).alloc (.cells #[.bool j1, .int .i64 a1, .int .i64 a2, .int .i64 a3, .int .i64 a4] 62)).cell? ⟨g3 + 1, 2, none⟩ = some (.int .i64 a2) := ec.cell 2
  have q3 : ((w4.alloc (.cells #[.bool i1, .int .i64 d1, .int .i64 m1, .int .i64 y1] 60)).alloc (.cells #[.bool j1, .int .i64 a1, .int .i64 a2, .int .i64 a3, .int .i64 a4] 62)).cell? ⟨g3 + 1, 3, none⟩ = some (.int .i64 a3) := ec.cell 3
  have q4 : ((w4.alloc (.cells #[.bool i1, .int .i64 d1, .int .i64 m1, .int .i64 y1] 60)).alloc (.cells #[.bool j1, .int .i64 a1, .int .i64 a2, .int .i64 a3, .int .i64 a4] 62)).cell? ⟨g3 + 1, 4, none⟩ = some (.int .i64 a4) := ec.cell 4
  have r0 : ((w4.alloc (.cells #[.bool i1, .int .i64 d1, .int .i64 m1, .int .i64 y1] 60)).alloc (.cells #[.bool j1, .int .i64 a1, .int .i64 a2, .int .i64 a3, .int .i64 a4] 62)).cell? ⟨w4.heap.size, 0, none⟩ = some (.bool i1) := fd.cell 0
  have r1 : ((w4.alloc (.cells #[.bool i1, .int .i64 d1, .int .i64 m1, .int .i64 y1] 60)).alloc (.cells #[.bool j1, .int .i64 a1, .int .i64 a2, .int .i64 a3, .int .i64 a4] 62)).cell? ⟨w4.heap.size, 1, none⟩ = some (.int .i64 d1) := fd.cell 1
  have r2 : ((w4.alloc (.cells #[.bool i1, .int .i64 d1, .int .i64 m1, .int .i64 y1] 60)).alloc (.cells #[.bool j1, .int .i64 a1, .int .i64 a2, .int .i64 a3, .int .i64 a4] 62)).cell? ⟨w4.heap.size, 2, none⟩ = some (.int .i64 m1) := fd.cell 2
  have r3 : ((w4.alloc (.cells #[.bool i1, .int .i64 d1, .int .i64 m1, .int .i64 y1] 60)).alloc (.cells #[.bool j1, .int .i64 a1, .int .i64 a2, .int .i64 a3, .int .i64 a4] 62)).cell? ⟨w4.heap.size, 3, none⟩ = some (.int .i64 y1) := fd.cell 3
  have t0 : ((w4.alloc (.cells #[.bool i1, .int .i64 d1, .int .i64 m1, .int .i64 y1] 60)).alloc (.cells #[.bool j1, .int .i64 a1, .int .i64 a2, .int .i64 a3, .int .i64 a4] 62)).cell? ⟨w4.heap.size + 1, 0, none⟩ = some (.bool j1) := fc.cell 0
  have t1 : ((w4.alloc (.cells #[.bool i1, .int .i64 d1, .int .i64 m1, .int .i64 y1] 60)).alloc (.cells #[.bool j1, .int .i64 a1, .int .i64 a2, .int .i64 a3, .int .i64 a4] 62)).cell? ⟨w4.heap.size + 1, 1, none⟩ = some (.int .i64 a1) := fc.cell 1
  have t2 : ((w4.alloc (.cells #[.bool i1, .int .i64 d1, .int .i64 m1, .int .i64 y1] 60)).alloc (.cells #[.bool j1, .int .i64 a1, .int .i64 a2, .int .i64 a3, .int .i64 a4] 62)).cell? ⟨w4.heap.size + 1, 2, none⟩ = some (.int .i64 a2) := fc.cell 2
  have t3 : ((w4.alloc (.cells #[.bool i1, .int .i64 d1, .int .i64 m1, .int .i64 y1] 60)).alloc (.cells #[.bool j1, .int .i64 a1, .int .i64 a2, .int .i64 a3, .int .i64 a4] 62)).cell? ⟨w4.heap.size + 1, 3, none⟩ = some (.int .i64 a3) := fc.cell 3
  have t4 : ((w4.alloc (.cells #[.bool i1, .int .i64 d1, .int .i64 m1, .int .i64 y1] 60)).alloc (.cells #[.bool j1, .int .i64 a1, .int .i64 a2, .int .i64 a3, .int .i64 a4] 62)).cell? ⟨w4.heap.size + 1, 4, none⟩ = some (.int .i64 a4) := fc.cell 4
  go_wp2_with fail
  refine (HK.out _).mono ?_
  rintro e w5 ⟨rfl, b5⟩
  go_wp2
  go_ret
  exact ⟨rfl, below24 hb b5⟩
end Go.Proofs.Ytbhfidneijogfaa
