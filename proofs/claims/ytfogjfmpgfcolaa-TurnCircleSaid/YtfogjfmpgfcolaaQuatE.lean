/- Chapter 10: quaternions: the reference's leaves. -/
import Derived.Test.YtfogjfmpgfcolaaQuatD
namespace Go.Proofs.Ytfogjfmpgfcolaa
open Go.RowKit

theorem r9_Times (a b f : Int) (w : World) (ha : I32 a) (hb : I32 b) (hf : I64 f) :
    Calls Try.prog 85 #[.int .i32 a, .int .i32 b, .int .i64 f] w fun e w' => e = .returned (.int .i64 (roundP (a * b) f)) ∧ w = w' := by
  have hm := mul_bd a b ha hb
  have H := hid (fxr_Round (a * b) f w (by unfold I64; omega) hf)
  obtain ⟨a1, a2⟩ := ha
  obtain ⟨b1, b2⟩ := hb
  generalize roundP (a * b) f = r at *
  go_enter Try.func85, Try.ntmps85
  go_wp2_with fail
  refine (H.out).mono ?_
  rintro e w' ⟨rfl, rfl⟩
  go_wp2
  go_ret
  exact ⟨rfl, rfl⟩
theorem r10_times (a b : Int) (w : World) (ha : I32 a) (hb : I32 b) :
    Calls Try.prog 108 #[.int .i32 a, .int .i32 b] w fun e w' => e = .returned (.int .i64 (tmP a b)) ∧ w = w' := by
  have H := hid (r9_Times a b 30 w ha hb (by unfold I64; omega))
  have HT : Hid (tmP a b = roundP (a * b) 30) := rfl
  generalize roundP (a * b) 30 = r at *
  clear ha hb
  go_enter Try.func108, Try.ntmps108
  go_wp2_with fail
  refine (H.out).mono ?_
  rintro e w' ⟨rfl, rfl⟩
  go_wp2
  go_ret
  exact ⟨by rw [HT.out]; rfl, rfl⟩

set_option maxHeartbeats 2000000 in
theorem r9_Cut (a b c : Int) (w : World) (ha : I64 a) (hb : I64 b) (hc : I64 c) :
    Calls Try.prog 43 #[.int .i64 a, .int .i64 b, .int .i64 c] w fun e w' =>
      e = .returned (.tuple #[.agg #[.int .i32 (clampP a), .int .i32 (clampP b), .int .i32 (clampP c)], .int .i64 (cutC a + cutC b + cutC c)]) ∧ Below w.heap.size w w' := by
  have h1a := fun w => fxr_Clamp a w ha
  have h1b := fun w => fxr_Clamp b w hb
  have h1c := fun w => fxr_Clamp c w hc
  have g1 : cutC a = if (clampP a != a) = true then 1 else 0 := rfl
  have g2 : cutC b = if (clampP b != b) = true then 1 else 0 := rfl
  have g3 : cutC c = if (clampP c != c) = true then 1 else 0 := rfl
  generalize (clampP a != a) = Ba at *
  generalize (clampP b != b) = Bb at *
  generalize (clampP c != c) = Bc at *
  clear ha hb hc
  cases Ba <;> cases Bb <;> cases Bc
  all_goals
    simp only [if_true, if_false, Bool.false_eq_true] at g1 g2 g3
    have HA := hid h1a
    have HB := hid h1b
    have HC := hid h1c
    have G1 := hid g1
    have G2 := hid g2
    have G3 := hid g3
    clear h1a h1b h1c g1 g2 g3
    go_enter Try.func43, Try.ntmps43
    go_wp2_with fail
    refine (HA.out _).mono ?_
    rintro e w' ⟨rfl, rfl⟩
    go_wp2_with fail
    refine (HB.out _).mono ?_
    rintro e w' ⟨rfl, rfl⟩
    go_wp2_with fail
    refine (HC.out _).mono ?_
    rintro e w' ⟨rfl, rfl⟩
    go_wp2
    rw [G1.out, G2.out, G3.out]
    simp [bodyPost, results, Try.results43, go_sem]
    exact (Below.refl _ w).alloc (Nat.le_refl _) _

set_option maxHeartbeats 2000000 in
theorem r10_Cut (d a b c : Int) (w : World) (hd : I64 d) (ha : I64 a) (hb : I64 b) (hc : I64 c) :
    Calls Try.prog 109 #[.int .i64 d, .int .i64 a, .int .i64 b, .int .i64 c] w fun e w' =>
      e = .returned (.tuple #[.agg #[.int .i32 (clampP d), .int .i32 (clampP a), .int .i32 (clampP b), .int .i32 (clampP c)], .int .i64 (cutC d + cutC a + cutC b + cutC c)]) ∧ Below w.heap.size w w' := by
  have H1 := hid fun w => r9_Cut a b c w ha hb hc
  have h2 := fun w => fxr_Clamp d w hd
  have g1 : cutC d = if (clampP d != d) = true then 1 else 0 := rfl
  have na := cutC_bd a
  have nb := cutC_bd b
  have nc := cutC_bd c
  have hs : ∀ m : Int, m = cutC d + cutC a + cutC b + cutC c → m = cutC d + cutC a + cutC b + cutC c := fun m h => h
  have hN : 0 ≤ cutC a + cutC b + cutC c ∧ cutC a + cutC b + cutC c ≤ 3 := by omega
  obtain ⟨N1, N2⟩ := hN
  have hE : cutC d + cutC a + cutC b + cutC c = cutC a + cutC b + cutC c + cutC d := by omega
  rw [hE]
  generalize cutC a + cutC b + cutC c = N at *
  generalize clampP a = x at *
  generalize clampP b = y at *
  generalize clampP c = z at *
  generalize (clampP d != d) = Bd at *
  generalize clampP d = v at *
  clear ha hb hc hd na nb nc hs hE
  cases Bd
  all_goals
    simp only [if_true, if_false, Bool.false_eq_true] at g1
    have H2 := hid h2
    have G1 := hid g1
    clear h2 g1
    go_enter Try.func109, Try.ntmps109
    go_wp2_with fail
    refine (H1.out _).mono ?_
    rintro e w1 ⟨rfl, b1⟩
    have hb1 : Blk w1 w.heap.size 23 #[.int .i32 0, .int .i32 0, .int .i32 0, .int .i32 0] := (Blk.new w _ _).below b1 (by simp)
    have hbe : Below w.heap.size w w1 := ((Below.refl _ w).alloc (Nat.le_refl _) _).trans (b1.mono (by simp))
    clear b1
    have hlt := hb1.lt
    go_wp2_with fail
    refine (H2.out _).mono ?_
    rintro e w' ⟨rfl, rfl⟩
    have hb2 := hb1.alloc (.cells #[.int .i32 x, .int .i32 y, .int .i32 z] 25)
    have hk := Blk.new w1 25 #[.int .i32 x, .int .i32 y, .int .i32 z]
    have hbe2 := hbe.alloc hbe.size (.cells #[.int .i32 x, .int .i32 y, .int .i32 z] 25)
    clear hb1 hbe
    generalize hw2 : w1.alloc (.cells #[.int .i32 x, .int .i32 y, .int .i32 z] 25) = w2 at *
    clear hw2
    have x0 : w2.cell? ⟨w1.heap.size, 0, none⟩ = some (.int .i32 x) := hk.cell 0
    have x1 : w2.cell? ⟨w1.heap.size, 1, none⟩ = some (.int .i32 y) := hk.cell 1
    have x2 : w2.cell? ⟨w1.heap.size, 2, none⟩ = some (.int .i32 z) := hk.cell 2
    have y0 : w2.cell? ⟨w.heap.size, 0, none⟩ = some (.int .i32 0) := hb2.cell 0
    have y1 : w2.cell? ⟨w.heap.size, 1, none⟩ = some (.int .i32 0) := hb2.cell 1
    have y2 : w2.cell? ⟨w.heap.size, 2, none⟩ = some (.int .i32 0) := hb2.cell 2
    have y3 : w2.cell? ⟨w.heap.size, 3, none⟩ = some (.int .i32 0) := hb2.cell 3
    have v0 := hb2.frozen 0
    have v1 := hb2.frozen 1
    have v2 := hb2.frozen 2
    have v3 := hb2.frozen 3
    go_wp2
    have hb9 := (((hb2.set_ 0 (.int .i32 v)).set_ 1 (.int .i32 x)).set_ 2 (.int .i32 y)).set_ 3 (.int .i32 z)
    have hbf : Below w.heap.size w ((((w2.setCell ⟨w.heap.size, 0, none⟩ (.int .i32 v)).setCell ⟨w.heap.size, 1, none⟩ (.int .i32 x)).setCell ⟨w.heap.size, 2, none⟩ (.int .i32 y)).setCell ⟨w.heap.size, 3, none⟩ (.int .i32 z)) := (((hbe2.setCell (by simp) _).setCell (by simp) _).setCell (by simp) _).setCell (by simp) _
    generalize (((w2.setCell ⟨w.heap.size, 0, none⟩ (.int .i32 v)).setCell ⟨w.heap.size, 1, none⟩ (.int .i32 x)).setCell ⟨w.heap.size, 2, none⟩ (.int .i32 y)).setCell ⟨w.heap.size, 3, none⟩ (.int .i32 z) = W at *
    have e0 : W.cell? ⟨w.heap.size, 0, none⟩ = some (.int .i32 v) := hb9.cell 0
    have e1 : W.cell? ⟨w.heap.size, 1, none⟩ = some (.int .i32 x) := hb9.cell 1
    have e2 : W.cell? ⟨w.heap.size, 2, none⟩ = some (.int .i32 y) := hb9.cell 2
    have e3 : W.cell? ⟨w.heap.size, 3, none⟩ = some (.int .i32 z) := hb9.cell 3
    clear hb9 hb2 y0 y1 y2 y3 x0 x1 x2
    rw [G1.out]
    simp [bodyPost, results, Try.results109, go_sem, e0, e1, e2, e3]
    exact hbf
end Go.Proofs.Ytfogjfmpgfcolaa
