/- Chapter 24: the walks of ClockTells, ClockDates. -/
import Derived.Test.YtbhfidneijogfaaClkP
import Derived.Test.YtbhfidneijogfaaClkM
namespace Go.Proofs.Ytbhfidneijogfaa
open Go.RowKit
set_option linter.unusedVariables false
set_option linter.unusedSimpArgs false
attribute [local go_sem] Oper.semAt_some
theorem takeC_is (s : ByteArray) : ∃ (x0 : Bool) (x1 x2 x3 x4 : Int), takeC s = .agg #[.bool x0, .int .i64 x1, .int .i64 x2, .int .i64 x3, .int .i64 x4] := by
  unfold takeC
  split
  · exact ⟨_, _, _, _, _, rfl⟩
  · exact ⟨_, _, _, _, _, rfl⟩
theorem takeDC_is (s : ByteArray) : ∃ (x0 : Bool) (x1 x2 x3 : Int), takeDC s = .agg #[.bool x0, .int .i64 x1, .int .i64 x2, .int .i64 x3] := by
  unfold takeDC
  split
  · exact ⟨_, _, _, _, rfl⟩
  · exact ⟨_, _, _, _, rfl⟩
set_option maxRecDepth 20000 in
set_option maxHeartbeats 8000000 in
theorem clockTells_walk (i : Bool) (h m s c : Int) (t : ByteArray) (w : World) (wh : (Lit.int .i64 h).wf = true) (wm : (Lit.int .i64 m).wf = true) (ws : (Lit.int .i64 s).wf = true) (wc : (Lit.int .i64 c).wf = true) (wt : t.size ≤ maxLen) :
    Calls Try.prog 10 #[.agg #[.bool i, .int .i64 h, .int .i64 m, .int .i64 s, .int .i64 c], .string t] w fun e w' => e = .returned (.bool true) ∧ Below w.heap.size w w' := by
  have HK := hid law24_knows
  unfold maxLen at wt
  clear wh wm ws wc
  by_cases hl : 100 < t.size
  · have dl : decide (100 < (t.size : Int)) = true := by simp; omega
    have hp := Blk.new w 62 #[.bool i, .int .i64 h, .int .i64 m, .int .i64 s, .int .i64 c]
    have hb := (Below.refl w.heap.size w).alloc (Nat.le_refl _) (.cells #[.bool i, .int .i64 h, .int .i64 m, .int .i64 s, .int .i64 c] 62)
    go_enter Try.func10, Try.ntmps10
    go_wp2_with fail
    generalize w.alloc (.cells #[.bool i, .int .i64 h, .int .i64 m, .int .i64 s, .int .i64 c] 62) = W0 at *
    refine (HK.out _).mono ?_
    rintro e w1 ⟨rfl, b1⟩
    go_wp2
    go_ret
    exact ⟨rfl, below24 hb b1⟩
  · have dl : decide (100 < (t.size : Int)) = false := by simp; omega
    have h1 := fun w => c_Put i h m s c w
    have h2 := fun w => r_Put i h m s c w
    obtain ⟨x0, x1, x2, x3, x4, hx⟩ := takeC_is t
    have h3 := fun w => c_Take t w (by omega)
    have h4 := fun w => r_Take t w (by omega)
    unfold Taken at h3 h4
    rw [hx] at h3 h4
    generalize putV i h m s c = S at *
    generalize putE i h m s c = E at *
    generalize takeE t = G at *
    have H1 := hid h1
    have H2 := hid h2
    have H3 := hid h3
    have H4 := hid h4
    clear h1 h2 h3 h4 hx
    have hp := Blk.new w 62 #[.bool i, .int .i64 h, .int .i64 m, .int .i64 s, .int .i64 c]
    have hb := (Below.refl w.heap.size w).alloc (Nat.le_refl _) (.cells #[.bool i, .int .i64 h, .int .i64 m, .int .i64 s, .int .i64 c] 62)
    go_enter Try.func10, Try.ntmps10
    go_wp2_with fail
    generalize w.alloc (.cells #[.bool i, .int .i64 h, .int .i64 m, .int .i64 s, .int .i64 c] 62) = W0 at *
    refine (HK.out _).mono ?_
    rintro e w1 ⟨rfl, b1⟩
    replace hp := hp.below b1 hp.lt
    replace hb := below24 hb b1
    have f0 : (w1).cell? ⟨w.heap.size, 0, none⟩ = some (.bool i) := hp.cell 0
    have f1 : (w1).cell? ⟨w.heap.size, 1, none⟩ = some (.int .i64 h) := hp.cell 1
    have f2 : (w1).cell? ⟨w.heap.size, 2, none⟩ = some (.int .i64 m) := hp.cell 2
    have f3 : (w1).cell? ⟨w.heap.size, 3, none⟩ = some (.int .i64 s) := hp.cell 3
    have f4 : (w1).cell? ⟨w.heap.size, 4, none⟩ = some (.int .i64 c) := hp.cell 4
    go_wp2_with fail
    clear f0 f1 f2 f3 f4
    refine (H1.out _).mono ?_
    rintro e w2 ⟨rfl, b2⟩
    replace hp := hp.below b2 hp.lt
    replace hb := below24 hb b2
    have f0 : (w2).cell? ⟨w.heap.size, 0, none⟩ = some (.bool i) := hp.cell 0
    have f1 : (w2).cell? ⟨w.heap.size, 1, none⟩ = some (.int .i64 h) := hp.cell 1
    have f2 : (w2).cell? ⟨w.heap.size, 2, none⟩ = some (.int .i64 m) := hp.cell 2
    have f3 : (w2).cell? ⟨w.heap.size, 3, none⟩ = some (.int .i64 s) := hp.cell 3
    have f4 : (w2).cell? ⟨w.heap.size, 4, none⟩ = some (.int .i64 c) := hp.cell 4
    go_wp2_with fail
    clear f0 f1 f2 f3 f4
    refine (H2.out _).mono ?_
    rintro e w3 ⟨rfl, b3⟩
    replace hb := below24 hb b3
    clear hp b1 b2 b3
    go_wp2_with fail
    refine (H3.out _).mono ?_
    rintro e w4 ⟨rfl, b4⟩
    replace hb := below24 hb b4
    have ea := Blk.new w4 62 #[.bool x0, .int .i64 x1, .int .i64 x2, .int .i64 x3, .int .i64 x4]
    have hs4 := hb.size
    replace hb := hb.alloc hb.size (.cells #[.bool x0, .int .i64 x1, .int .i64 x2, .int .i64 x3, .int .i64 x4] 62)
    go_wp2_with fail
    generalize w4.alloc (.cells #[.bool x0, .int .i64 x1, .int .i64 x2, .int .i64 x3, .int .i64 x4] 62) = W4 at *
    generalize w4.heap.size = g4 at *
    refine (H4.out _).mono ?_
    rintro e w5 ⟨rfl, b5⟩
    replace hb := below24 hb b5
    replace ea := (ea.below b5 ea.lt).alloc (.cells #[.bool x0, .int .i64 x1, .int .i64 x2, .int .i64 x3, .int .i64 x4] 62)
    have eb := Blk.new w5 62 #[.bool x0, .int .i64 x1, .int .i64 x2, .int .i64 x3, .int .i64 x4]
    have hs5 := hb.size
    replace hb := hb.alloc hb.size (.cells #[.bool x0, .int .i64 x1, .int .i64 x2, .int .i64 x3, .int .i64 x4] 62)
    have ss : (S.toList == S.toList) = true := by simp
    have x00 : (x0 == x0) = true := by simp
    have p0 : (w5.alloc (.cells #[.bool x0, .int .i64 x1, .int .i64 x2, .int .i64 x3, .int .i64 x4] 62)).cell? ⟨g4, 0, none⟩ = some (.bool x0) := ea.cell 0
    have p1 : (w5.alloc (.cells #[.bool x0, .int .i64 x1, .int .i64 x2, .int .i64 x3, .int .i64 x4] 62)).cell? ⟨g4, 1, none⟩ = some (.int .i64 x1) := ea.cell 1
    have p2 : (w5.alloc (.cells #[.bool x0, .int .i64 x1, .int .i64 x2, .int .i64 x3, .int .i64 x4] 62)).cell? ⟨g4, 2, none⟩ = some (.int .i64 x2) := ea.cell 2
    have p3 : (w5.alloc (.cells #[.bool x0, .int .i64 x1, .int .i64 x2, .int .i64 x3, .int .i64 x4] 62)).cell? ⟨g4, 3, none⟩ = some (.int .i64 x3) := ea.cell 3
    have p4 : (w5.alloc (.cells #[.bool x0, .int .i64 x1, .int .i64 x2, .int .i64 x3, .int .i64 x4] 62)).cell? ⟨g4, 4, none⟩ = some (.int .i64 x4) := ea.cell 4
    have q0 : (w5.alloc (.cells #[.bool x0, .int .i64 x1, .int .i64 x2, .int .i64 x3, .int .i64 x4] 62)).cell? ⟨w5.heap.size, 0, none⟩ = some (.bool x0) := eb.cell 0
    have q1 : (w5.alloc (.cells #[.bool x0, .int .i64 x1, .int .i64 x2, .int .i64 x3, .int .i64 x4] 62)).cell? ⟨w5.heap.size, 1, none⟩ = some (.int .i64 x1) := eb.cell 1
    have q2 : (w5.alloc (.cells #[.bool x0, .int .i64 x1, .int .i64 x2, .int .i64 x3, .int .i64 x4] 62)).cell? ⟨w5.heap.size, 2, none⟩ = some (.int .i64 x2) := eb.cell 2
    have q3 : (w5.alloc (.cells #[.bool x0, .int .i64 x1, .int .i64 x2, .int .i64 x3, .int .i64 x4] 62)).cell? ⟨w5.heap.size, 3, none⟩ = some (.int .i64 x3) := eb.cell 3
    have q4 : (w5.alloc (.cells #[.bool x0, .int .i64 x1, .int .i64 x2, .int .i64 x3, .int .i64 x4] 62)).cell? ⟨w5.heap.size, 4, none⟩ = some (.int .i64 x4) := eb.cell 4
    go_wp2_with (go_at_call 47; refine (l24_num _ _).mono ?_; rintro e w' ⟨rfl, rfl⟩)
    go_ret
    exact ⟨rfl, hb⟩
end Go.Proofs.Ytbhfidneijogfaa
