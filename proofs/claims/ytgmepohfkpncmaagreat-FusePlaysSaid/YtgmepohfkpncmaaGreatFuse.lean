/- Chapter 42: products, parts of an error, what is counted. -/
import Derived.Test.YtgmepohfkpncmaaGreatQuatE
import Derived.Test.YtgmepohfkpncmaaGreatHeld
import Derived.Laws.StructEq
import Derived.Deep.CutRange
import Derived.Laws.EntriesVeiled
namespace Go.Proofs.YtgmepohfkpncmaaGreat
open Go.RowKit
set_option linter.unusedVariables false
set_option linter.unusedSimpArgs false

/-- A part of an error. -/
def paP (a b c d : Int) : Int := clampP (roundP (tmP a b - tmP c d) 14)
def liP (v : Int) : Int := max (-16384) (min v 16384)
def liN (v : Int) : Int := if liP v = v then 0 else 1
theorem liP_bd (v : Int) : -16384 ≤ liP v ∧ liP v ≤ 16384 := by unfold liP; omega
theorem liN_bd (v : Int) : 0 ≤ liN v ∧ liN v ≤ 1 := by unfold liN; split <;> omega
theorem tmP_bd (a b : Int) (ha : I32 a) (hb : I32 b) : -4294967297 ≤ tmP a b ∧ tmP a b ≤ 4294967297 := by
  have hm := mul_bd a b ha hb
  unfold tmP roundP fracP
  have e : (2 : Int) ^ (max (0:Int) (min 30 62)).toNat = 1073741824 := by decide +kernel
  rw [e]
  generalize a * b = n at *
  unfold overP absP
  simp only [show ¬ ((1073741824 : Int) = 0) by omega, show ¬ ((1073741824 : Int) < 0) by omega, if_false]
  split <;> omega
theorem ro14_bd (n : Int) (h : -8589934594 ≤ n ∧ n ≤ 8589934594) : I64 (roundP n 14) := by
  unfold roundP fracP
  have e : (2 : Int) ^ (max (0:Int) (min 14 62)).toNat = 16384 := by decide +kernel
  rw [e]
  exact over_bd n 16384 (by unfold I64; omega) (by unfold I64; omega)
theorem f_by (a b : Int) (w : World) (ha : I32 a) (hb : I32 b) :
    Calls Tryz.prog 49 #[.int .i32 a, .int .i32 b] w fun e w' => e = .returned (.int .i64 (tmP a b)) ∧ Below w.heap.size w w' := by
  have hm := mul_bd a b ha hb
  have H := hid fun w => fx_Round (a * b) 30 w (by unfold I64; omega) (by unfold I64; omega)
  have HT : Hid (tmP a b = roundP (a * b) 30) := rfl
  obtain ⟨a1, a2⟩ := ha
  obtain ⟨b1, b2⟩ := hb
  generalize roundP (a * b) 30 = r at *
  go_enter Tryz.func49, Tryz.ntmps49
  go_wp2_with fail
  refine (H.out _).mono ?_
  rintro e w' ⟨rfl, hb⟩
  go_wp2
  go_ret
  exact ⟨by rw [HT.out]; rfl, hb⟩
theorem f_on {w w1 w2 : World} (a : Below w.heap.size w w1) (b : Below w1.heap.size w1 w2) : Below w.heap.size w w2 := a.trans (b.mono a.size)
theorem f_part (a b c d : Int) (w : World) (ha : I32 a) (hb : I32 b) (hc : I32 c) (hd : I32 d) :
    Calls Tryz.prog 20 #[.int .i32 a, .int .i32 b, .int .i32 c, .int .i32 d] w fun e w' => e = .returned (.int .i32 (paP a b c d)) ∧ Below w.heap.size w w' := by
  have H1 := hid fun w => f_by a b w ha hb
  have H2 := hid fun w => f_by c d w hc hd
  have m1 := tmP_bd a b ha hb
  have m2 := tmP_bd c d hc hd
  have H3 := hid fun w => fx_Round (tmP a b - tmP c d) 14 w (by unfold I64; omega) (by unfold I64; omega)
  have m3 : I64 (roundP (tmP a b - tmP c d) 14) := ro14_bd _ (by omega)
  have H4 := hid fun w => fx_Clamp (roundP (tmP a b - tmP c d) 14) w m3
  have HP : Hid (paP a b c d = clampP (roundP (tmP a b - tmP c d) 14)) := rfl
  have u1 : wrap64 (tmP a b - tmP c d) = tmP a b - tmP c d := IntWalk.wrap64_in _ (by omega)
  generalize tmP a b = s at *
  generalize tmP c d = t at *
  generalize clampP (roundP (s - t) 14) = k at *
  generalize roundP (s - t) 14 = r at *
  clear m3
  go_enter Tryz.func20, Tryz.ntmps20
  go_wp2_with fail
  refine (H1.out _).mono ?_
  rintro e w1 ⟨rfl, b1⟩
  go_wp2_with fail
  refine (H2.out _).mono ?_
  rintro e w2 ⟨rfl, b2⟩
  go_wp2_with fail
  refine (H3.out _).mono ?_
  rintro e w3 ⟨rfl, b3⟩
  go_wp2_with fail
  refine (H4.out _).mono ?_
  rintro e w4 ⟨rfl, rfl⟩
  go_wp2
  go_ret
  exact ⟨by rw [HP.out]; rfl, f_on (f_on b1 b2) b3⟩
/-- What is counted. -/
theorem f_note (g : Nat) (q0 q1 q2 q3 b0 b1 b2 n c y0 y1 y2 x0 x1 x2 d r0 r1 r2 v0 v1 v2 k : Int) (w : World) (hk : -4611686018427387904 ≤ c + k ∧ c + k ≤ 4611686018427387904) (hB : Blk w g 56 #[.int .i32 q0, .int .i32 q1, .int .i32 q2, .int .i32 q3, .int .i32 b0, .int .i32 b1, .int .i32 b2, .int .i64 n, .int .i64 c, .int .i32 y0, .int .i32 y1, .int .i32 y2, .int .i32 x0, .int .i32 x1, .int .i32 x2, .int .i32 d, .int .i32 r0, .int .i32 r1, .int .i32 r2]) :
    Calls Tryz.prog 57 #[.pointer (some ⟨g, 0, none⟩), .agg #[.int .i32 v0, .int .i32 v1, .int .i32 v2], .int .i64 k] w fun e w' => e = .returned (.agg #[.int .i32 v0, .int .i32 v1, .int .i32 v2]) ∧ Blk w' g 56 #[.int .i32 q0, .int .i32 q1, .int .i32 q2, .int .i32 q3, .int .i32 b0, .int .i32 b1, .int .i32 b2, .int .i64 n, .int .i64 (c + k), .int .i32 y0, .int .i32 y1, .int .i32 y2, .int .i32 x0, .int .i32 x1, .int .i32 x2, .int .i32 d, .int .i32 r0, .int .i32 r1, .int .i32 r2] ∧ w.grownBy w' (some g) := by
  have hlt := hB.lt
  have hB1 : Blk ((w.alloc (.cells #[.int .i32 v0, .int .i32 v1, .int .i32 v2] 25)).alloc (.cells #[.int .i32 0, .int .i32 0, .int .i32 0] 25)) g 56 #[.int .i32 q0, .int .i32 q1, .int .i32 q2, .int .i32 q3, .int .i32 b0, .int .i32 b1, .int .i32 b2, .int .i64 n, .int .i64 c, .int .i32 y0, .int .i32 y1, .int .i32 y2, .int .i32 x0, .int .i32 x1, .int .i32 x2, .int .i32 d, .int .i32 r0, .int .i32 r1, .int .i32 r2] := (hB.alloc _).alloc _
  have hg : w.grownBy ((w.alloc (.cells #[.int .i32 v0, .int .i32 v1, .int .i32 v2] 25)).alloc (.cells #[.int .i32 0, .int .i32 0, .int .i32 0] 25)) (some g) := only_alloc (only_alloc (World.grownBy.refl _ _) _) _
  have hv : Blk ((w.alloc (.cells #[.int .i32 v0, .int .i32 v1, .int .i32 v2] 25)).alloc (.cells #[.int .i32 0, .int .i32 0, .int .i32 0] 25)) w.heap.size 25 #[.int .i32 v0, .int .i32 v1, .int .i32 v2] := (Blk.new w _ _).alloc _
  have hr : Blk ((w.alloc (.cells #[.int .i32 v0, .int .i32 v1, .int .i32 v2] 25)).alloc (.cells #[.int .i32 0, .int .i32 0, .int .i32 0] 25)) (w.heap.size + 1) 25 #[.int .i32 0, .int .i32 0, .int .i32 0] := by have := Blk.new (w.alloc (.cells #[.int .i32 v0, .int .i32 v1, .int .i32 v2] 25)) 25 #[.int .i32 0, .int .i32 0, .int .i32 0]; simpa using this
  have u1 : wrap64 (c + k) = c + k := IntWalk.wrap64_in _ (by omega)
  clear hk
  go_enter Tryz.func57, Tryz.ntmps57
  go_upto_region 1 with fail
  generalize ((w.alloc (.cells #[.int .i32 v0, .int .i32 v1, .int .i32 v2] 25)).alloc (.cells #[.int .i32 0, .int .i32 0, .int .i32 0] 25)) = W0 at *
  have c8 : W0.cell? ⟨g, 8, none⟩ = some (.int .i64 c) := hB1.cell 8
  have z8 := hB1.frozen 8
  go_upto_region 2 with fail
  have hB2 := hB1.set_ 8 (.int .i64 (c + k))
  have hg2 := only_set hg 8 (.int .i64 (c + k))
  have hv2 := hv.fr g 8 (by omega) (.int .i64 (c + k))
  have hr2 := hr.fr g 8 (by omega) (.int .i64 (c + k))
  clear hB1 hg hv hr c8 z8
  generalize W0.setCell ⟨g, 8, none⟩ (.int .i64 (c + k)) = W1 at *
  have a0 : W1.cell? ⟨w.heap.size, 0, none⟩ = some (.int .i32 v0) := hv2.cell 0
  have e0 : W1.cell? ⟨w.heap.size + 1, 0, none⟩ = some (.int .i32 0) := hr2.cell 0
  have z0 := hr2.frozen 0
  have a1 : W1.cell? ⟨w.heap.size, 1, none⟩ = some (.int .i32 v1) := hv2.cell 1
  have e1 : W1.cell? ⟨w.heap.size + 1, 1, none⟩ = some (.int .i32 0) := hr2.cell 1
  have z1 := hr2.frozen 1
  have a2 : W1.cell? ⟨w.heap.size, 2, none⟩ = some (.int .i32 v2) := hv2.cell 2
  have e2 : W1.cell? ⟨w.heap.size + 1, 2, none⟩ = some (.int .i32 0) := hr2.cell 2
  have z2 := hr2.frozen 2
  go_wp2
  have hf : Blk (((W1.setCell ⟨w.heap.size + 1, 0, none⟩ (.int .i32 v0)).setCell ⟨w.heap.size + 1, 1, none⟩ (.int .i32 v1)).setCell ⟨w.heap.size + 1, 2, none⟩ (.int .i32 v2)) (w.heap.size + 1) 25 #[.int .i32 v0, .int .i32 v1, .int .i32 v2] := (((hr2.set_ 0 (.int .i32 v0)).set_ 1 (.int .i32 v1)).set_ 2 (.int .i32 v2))
  have hf2 : Blk (((W1.setCell ⟨w.heap.size + 1, 0, none⟩ (.int .i32 v0)).setCell ⟨w.heap.size + 1, 1, none⟩ (.int .i32 v1)).setCell ⟨w.heap.size + 1, 2, none⟩ (.int .i32 v2)) g 56 #[.int .i32 q0, .int .i32 q1, .int .i32 q2, .int .i32 q3, .int .i32 b0, .int .i32 b1, .int .i32 b2, .int .i64 n, .int .i64 (c + k), .int .i32 y0, .int .i32 y1, .int .i32 y2, .int .i32 x0, .int .i32 x1, .int .i32 x2, .int .i32 d, .int .i32 r0, .int .i32 r1, .int .i32 r2] := ((((hB2).fr (w.heap.size + 1) 0 (by omega) (.int .i32 v0))).fr (w.heap.size + 1) 1 (by omega) (.int .i32 v1)).fr (w.heap.size + 1) 2 (by omega) (.int .i32 v2)
  have hf3 : w.grownBy (((W1.setCell ⟨w.heap.size + 1, 0, none⟩ (.int .i32 v0)).setCell ⟨w.heap.size + 1, 1, none⟩ (.int .i32 v1)).setCell ⟨w.heap.size + 1, 2, none⟩ (.int .i32 v2)) (some g) := only_setCell (only_setCell (only_setCell hg2 (p := ⟨w.heap.size + 1, 0, none⟩) (.inr (by dsimp only; omega)) _) (p := ⟨w.heap.size + 1, 1, none⟩) (.inr (by dsimp only; omega)) _) (p := ⟨w.heap.size + 1, 2, none⟩) (.inr (by dsimp only; omega)) _
  generalize (((W1.setCell ⟨w.heap.size + 1, 0, none⟩ (.int .i32 v0)).setCell ⟨w.heap.size + 1, 1, none⟩ (.int .i32 v1)).setCell ⟨w.heap.size + 1, 2, none⟩ (.int .i32 v2)) = wf at *
  have f0 : wf.cell? ⟨w.heap.size + 1, 0, none⟩ = some (.int .i32 v0) := hf.cell 0
  have f1 : wf.cell? ⟨w.heap.size + 1, 1, none⟩ = some (.int .i32 v1) := hf.cell 1
  have f2 : wf.cell? ⟨w.heap.size + 1, 2, none⟩ = some (.int .i32 v2) := hf.cell 2
  simp [bodyPost, results, Tryz.results57, go_sem, f0, f1, f2]
  exact ⟨hf2, hf3⟩
/-- A part of the bias, brought back. -/
theorem f_back (g : Nat) (q0 q1 q2 q3 b0 b1 b2 n c y0 y1 y2 x0 x1 x2 d r0 r1 r2 v : Int) (w : World) (iv : I32 v) (hk : -4611686018427387904 ≤ c ∧ c ≤ 4611686018427387904) (hB : Blk w g 56 #[.int .i32 q0, .int .i32 q1, .int .i32 q2, .int .i32 q3, .int .i32 b0, .int .i32 b1, .int .i32 b2, .int .i64 n, .int .i64 c, .int .i32 y0, .int .i32 y1, .int .i32 y2, .int .i32 x0, .int .i32 x1, .int .i32 x2, .int .i32 d, .int .i32 r0, .int .i32 r1, .int .i32 r2]) :
    Calls Tryz.prog 61 #[.pointer (some ⟨g, 0, none⟩), .int .i32 v] w fun e w' => e = .returned (.int .i32 (liP v)) ∧ Blk w' g 56 #[.int .i32 q0, .int .i32 q1, .int .i32 q2, .int .i32 q3, .int .i32 b0, .int .i32 b1, .int .i32 b2, .int .i64 n, .int .i64 (c + liN v), .int .i32 y0, .int .i32 y1, .int .i32 y2, .int .i32 x0, .int .i32 x1, .int .i32 x2, .int .i32 d, .int .i32 r0, .int .i32 r1, .int .i32 r2] ∧ w.grownBy w' (some g) := by
  have hlt := hB.lt
  have u1 : wrap64 (c + 1) = c + 1 := IntWalk.wrap64_in _ (by omega)
  have c8 : w.cell? ⟨g, 8, none⟩ = some (.int .i64 c) := hB.cell 8
  have z8 := hB.frozen 8
  have HL : Hid (liP v = max (-16384) (min v 16384)) := rfl
  clear hk
  by_cases h : max (-16384) (min v 16384) = v
  · have e1 : (max (-16384) (min v 16384) == v) = true := by simpa using h
    have HN : Hid (c + liN v = c) := hid (by unfold liN liP; rw [if_pos h]; omega)
    clear h iv
    generalize hm : max (-16384) (min v 16384) = m at *
    go_enter Tryz.func61, Tryz.ntmps61
    go_wp2
    go_ret
    exact ⟨by rw [HL.out]; rfl, by rw [HN.out]; exact hB, World.grownBy.refl _ _⟩
  · have e1 : (max (-16384) (min v 16384) == v) = false := by simpa using h
    have HN : Hid (c + liN v = c + 1) := hid (by unfold liN liP; rw [if_neg h])
    clear h iv
    generalize hm : max (-16384) (min v 16384) = m at *
    go_enter Tryz.func61, Tryz.ntmps61
    go_wp2
    go_ret
    exact ⟨by rw [HL.out]; rfl, by rw [HN.out]; exact hB.set_ 8 _, only_set (World.grownBy.refl _ _) 8 _⟩
end Go.Proofs.YtgmepohfkpncmaaGreat
