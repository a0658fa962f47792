/- Chapter 13: the 31 rounds. -/
import Derived.Test.YtfogjfmpgfcolaaTurnI
namespace Go.Proofs.Ytfogjfmpgfcolaa
open Go.RowKit
set_option linter.unusedVariables false
set_option linter.unusedSimpArgs false

def stepA (k : Nat) (h : Int × Int × Int) : Int × Int × Int := if h.2.1 = 0 then h else turnP k (decide (h.2.1 < 0)) h.1 h.2.1 h.2.2
def stepC (k : Nat) (h : Int × Int × Int) : Int × Int × Int := turnP k (decide (0 ≤ h.2.2)) h.1 h.2.1 h.2.2
def iterP (f : Nat → Int × Int × Int → Int × Int × Int) : Nat → Int × Int × Int → Int × Int × Int
  | 0, h => h
  | n + 1, h => f n (iterP f n h)
/-- How far the numbers may grow. -/
def bnP : Nat → Int
  | 0 => 2251799813685248
  | n + 1 => bnP n + bnP n / 2 ^ n
theorem bn_bd (n : Nat) (h : n ≤ 31) : 0 ≤ bnP n ∧ bnP n ≤ 1152921504606846976 := by
  have : ∀ n, n ≤ 31 → 0 ≤ bnP n ∧ bnP n ≤ 1152921504606846976 := by decide +kernel
  exact this n h
def Near (n : Nat) (h : Int × Int × Int) : Prop := (-bnP n ≤ h.1 ∧ h.1 ≤ bnP n) ∧ (-bnP n ≤ h.2.1 ∧ h.2.1 ≤ bnP n) ∧ -(4294967296 + 536870912 * (n : Int)) ≤ h.2.2 ∧ h.2.2 ≤ 4294967296 + 536870912 * (n : Int)
theorem near_turn (n : Nat) (hn : n < 31) (up : Bool) (h : Int × Int × Int) (hN : Near n h) : Near (n + 1) (turnP n up h.1 h.2.1 h.2.2) := by
  obtain ⟨x, y, a⟩ := h
  obtain ⟨h1, h2, h3⟩ := hN
  simp only at h1 h2 h3
  have hD : (1:Int) ≤ 2 ^ n := by
    have : ∀ k, k < 31 → (1:Int) ≤ 2 ^ k := by decide
    exact this n hn
  have q1 := tdiv_le x (bnP n) (2 ^ n) (by omega) h1.1 h1.2
  have q2 := tdiv_le y (bnP n) (2 ^ n) (by omega) h2.1 h2.2
  have q3 := tab_bd n
  have q4 := bn_bd n (by omega)
  have e : bnP (n + 1) = bnP n + bnP n / 2 ^ n := rfl
  have q5 : 0 ≤ bnP n / 2 ^ n := Int.ediv_nonneg q4.1 (by omega)
  cases up <;> simp only [turnP, Near, if_true] <;> rw [e] <;> (try simp only [Bool.false_eq_true, if_false]) <;> push_cast <;> omega
theorem near_mono (n : Nat) (hn : n < 31) (h : Int × Int × Int) (hN : Near n h) : Near (n + 1) h := by
  obtain ⟨x, y, a⟩ := h
  obtain ⟨h1, h2, h3⟩ := hN
  simp only at h1 h2 h3
  have q4 := bn_bd n (by omega)
  have hD : (1:Int) ≤ 2 ^ n := by
    have : ∀ k, k < 31 → (1:Int) ≤ 2 ^ k := by decide
    exact this n hn
  have e : bnP (n + 1) = bnP n + bnP n / 2 ^ n := rfl
  have q5 : 0 ≤ bnP n / 2 ^ n := Int.ediv_nonneg q4.1 (by omega)
  simp only [Near]
  rw [e]
  push_cast
  omega
theorem near_A (h : Int × Int × Int) (h0 : Near 0 h) : ∀ n, n ≤ 31 → Near n (iterP stepA n h)
  | 0, _ => h0
  | n + 1, hn => by
    have ih := near_A h h0 n (by omega)
    simp only [iterP, stepA]
    split
    · exact near_mono n (by omega) _ ih
    · exact near_turn n (by omega) _ _ ih
theorem near_C (h : Int × Int × Int) (h0 : Near 0 h) : ∀ n, n ≤ 31 → Near n (iterP stepC n h)
  | 0, _ => h0
  | n + 1, hn => near_turn n (by omega) _ _ (near_C h h0 n (by omega))

set_option maxHeartbeats 8000000 in
theorem t_run_A (x y a : Int) (w : World) (h0 : Near 0 (x, y, a)) :
    Calls Try.prog 48 #[.agg #[.int .i64 x, .int .i64 y, .int .i64 a], .func (.func 49) #[] #[]] w fun e w' => e = .returned (.agg #[.int .i64 (iterP stepA 31 (x, y, a)).1, .int .i64 (iterP stepA 31 (x, y, a)).2.1, .int .i64 (iterP stepA 31 (x, y, a)).2.2]) ∧ Below w.heap.size w w' := by
  have hp : Blk ((w.alloc (.cells #[.int .i64 x, .int .i64 y, .int .i64 a] 70)).alloc (.cells #[.int .i64 0, .int .i64 0, .int .i64 0] 70)) w.heap.size 70 #[.int .i64 x, .int .i64 y, .int .i64 a] := (Blk.new w _ _).alloc _
  have hr : Blk ((w.alloc (.cells #[.int .i64 x, .int .i64 y, .int .i64 a] 70)).alloc (.cells #[.int .i64 0, .int .i64 0, .int .i64 0] 70)) (w.heap.size + 1) 70 #[.int .i64 0, .int .i64 0, .int .i64 0] := by have := Blk.new (w.alloc (.cells #[.int .i64 x, .int .i64 y, .int .i64 a] 70)) 70 #[.int .i64 0, .int .i64 0, .int .i64 0]; simpa using this
  have hb : Below w.heap.size w ((w.alloc (.cells #[.int .i64 x, .int .i64 y, .int .i64 a] 70)).alloc (.cells #[.int .i64 0, .int .i64 0, .int .i64 0] 70)) := ((Below.refl _ w).alloc (Nat.le_refl _) _).alloc (by simp) _
  go_enter Try.func48, Try.ntmps48
  go_wp2_with fail
  generalize (w.alloc (.cells #[.int .i64 x, .int .i64 y, .int .i64 a] 70)).alloc (.cells #[.int .i64 0, .int .i64 0, .int .i64 0] 70) = W0 at *
  go_loopw [8] (fun i wr => ∃ j : Nat, j ≤ 31 ∧ i = .int .i64 j ∧ Blk wr w.heap.size 70 #[.int .i64 (iterP stepA j (x, y, a)).1, .int .i64 (iterP stepA j (x, y, a)).2.1, .int .i64 (iterP stepA j (x, y, a)).2.2] ∧ Blk wr (w.heap.size + 1) 70 #[.int .i64 0, .int .i64 0, .int .i64 0] ∧ Below w.heap.size w wr) (fun i _ => 31 - (intOf i).toNat)
  case atStart => exact ⟨0, by omega, rfl, hp, hr, hb⟩
  case round =>
    clear hp hr hb
    obtain ⟨j, hj, rfl, hp, hr, hb⟩ := hrel
    have hN := near_A (x, y, a) h0 j hj
    by_cases hlt : j < 31
    · have k2 : (j : Int) < 31 := by omega
      have ej : IntKind.i64.wrap ((j : Int) + 1) = ((j + 1 : Nat) : Int) := (IntWalk.i64_in _ (by omega)).trans (by omega)
      have hbn := bn_bd j (by omega)
      obtain ⟨R, HJ⟩ : ∃ R, Hid (R = iterP stepA (j + 1) (x, y, a)) := ⟨_, rfl⟩
      have HI : Hid (R = stepA j (iterP stepA j (x, y, a))) := HJ
      generalize iterP stepA j (x, y, a) = h1 at *
      obtain ⟨x1, y1, a1⟩ := h1
      obtain ⟨R0, R1, R2⟩ := R
      simp only at hp hr
      have HC := hid fun w => c_Atan x1 y1 a1 w
      have HT := hid fun up w => t_turned j up x1 y1 a1 (bnP j) w hlt hbn hN.1 hN.2.1 (by have := hN.2.2; simp only at this; omega)
      clear hbn hN h0
      have c0 : wr.cell? ⟨w.heap.size, 0, none⟩ = some (.int .i64 x1) := hp.cell 0
      have c1 : wr.cell? ⟨w.heap.size, 1, none⟩ = some (.int .i64 y1) := hp.cell 1
      have c2 : wr.cell? ⟨w.heap.size, 2, none⟩ = some (.int .i64 a1) := hp.cell 2
      by_cases hy : y1 = 0
      · subst hy
        have HE : Hid ((R0, R1, R2) = (x1, 0, a1)) := HI
        go_wp2_with fail
        refine (HC.out _).mono ?_
        rintro e w3 ⟨rfl, b3⟩
        replace hp := hp.below b3 hp.lt
        replace hr := hr.below b3 hr.lt
        replace hb := hb.trans (b3.mono hb.size)
        clear c0 c1 c2
        go_wp2
        go_roundw
        case rel => exact ⟨j + 1, by omega, rfl, by rw [← show (R0, R1, R2) = iterP stepA (j + 1) (x, y, a) from HJ.out, HE.out]; exact hp, hr, hb⟩
        case measure => simp [intOf]; omega
      · have HE : Hid ((R0, R1, R2) = turnP j (decide (y1 < 0)) x1 y1 a1) := hid (by rw [HI.out]; simp only [stepA, if_neg hy])
        have hyb : (y1 != 0) = true := by simpa using hy
        clear hy
        go_wp2_with fail
        refine (HC.out _).mono ?_
        rintro e w3 ⟨rfl, b3⟩
        replace hp := hp.below b3 hp.lt
        replace hr := hr.below b3 hr.lt
        replace hb := hb.trans (b3.mono hb.size)
        clear c0 c1 c2
        have c0 : w3.cell? ⟨w.heap.size, 0, none⟩ = some (.int .i64 x1) := hp.cell 0
        have c1 : w3.cell? ⟨w.heap.size, 1, none⟩ = some (.int .i64 y1) := hp.cell 1
        have c2 : w3.cell? ⟨w.heap.size, 2, none⟩ = some (.int .i64 a1) := hp.cell 2
        go_wp2_with fail
        have HT2 := hid (HT.out (decide (y1 < 0)) w3)
        clear HT
        rw [show turnP j (decide (y1 < 0)) x1 y1 a1 = (R0, R1, R2) from HE.out.symm] at HT2
        refine (HT2.out).mono ?_
        rintro e w4 ⟨rfl, b4⟩
        replace hp := hp.below b4 hp.lt
        replace hr := hr.below b4 hr.lt
        replace hb := hb.trans (b4.mono hb.size)
        clear c0 c1 c2
        have d0 : w4.cell? ⟨w.heap.size, 0, none⟩ = some (.int .i64 x1) := hp.cell 0
        have z0 := hp.frozen 0
        have d1 : w4.cell? ⟨w.heap.size, 1, none⟩ = some (.int .i64 y1) := hp.cell 1
        have z1 := hp.frozen 1
        have d2 : w4.cell? ⟨w.heap.size, 2, none⟩ = some (.int .i64 a1) := hp.cell 2
        have z2 := hp.frozen 2
        go_wp2
        go_roundw
        case rel => exact ⟨j + 1, by omega, rfl, by rw [← show (R0, R1, R2) = iterP stepA (j + 1) (x, y, a) from HJ.out]; exact (((hp.set_ 0 (.int .i64 R0)).set_ 1 (.int .i64 R1)).set_ 2 (.int .i64 R2)), (((hr.far (p := ⟨w.heap.size, 0, none⟩) (by dsimp only; omega) (.int .i64 R0)).far (p := ⟨w.heap.size, 1, none⟩) (by dsimp only; omega) (.int .i64 R1)).far (p := ⟨w.heap.size, 2, none⟩) (by dsimp only; omega) (.int .i64 R2)), (((hb.setCell (p := ⟨w.heap.size, 0, none⟩) (by dsimp only; omega) (.int .i64 R0)).setCell (p := ⟨w.heap.size, 1, none⟩) (by dsimp only; omega) (.int .i64 R1)).setCell (p := ⟨w.heap.size, 2, none⟩) (by dsimp only; omega) (.int .i64 R2))⟩
        case measure => simp [intOf]; omega
    · obtain rfl : j = 31 := by omega
      clear hN h0
      obtain ⟨⟨R0, R1, R2⟩, HJ⟩ : ∃ R, Hid (iterP stepA 31 (x, y, a) = R) := ⟨_, rfl⟩
      rw [HJ.out] at hp
      simp only at hp
      have c0 : wr.cell? ⟨w.heap.size, 0, none⟩ = some (.int .i64 R0) := hp.cell 0
      have d0 : wr.cell? ⟨w.heap.size + 1, 0, none⟩ = some (.int .i64 0) := hr.cell 0
      have z0 := hr.frozen 0
      have c1 : wr.cell? ⟨w.heap.size, 1, none⟩ = some (.int .i64 R1) := hp.cell 1
      have d1 : wr.cell? ⟨w.heap.size + 1, 1, none⟩ = some (.int .i64 0) := hr.cell 1
      have z1 := hr.frozen 1
      have c2 : wr.cell? ⟨w.heap.size, 2, none⟩ = some (.int .i64 R2) := hp.cell 2
      have d2 : wr.cell? ⟨w.heap.size + 1, 2, none⟩ = some (.int .i64 0) := hr.cell 2
      have z2 := hr.frozen 2
      have hf : Blk (((wr.setCell ⟨w.heap.size + 1, 0, none⟩ (.int .i64 R0)).setCell ⟨w.heap.size + 1, 1, none⟩ (.int .i64 R1)).setCell ⟨w.heap.size + 1, 2, none⟩ (.int .i64 R2)) (w.heap.size + 1) 70 #[.int .i64 R0, .int .i64 R1, .int .i64 R2] := (((hr.set_ 0 (.int .i64 R0)).set_ 1 (.int .i64 R1)).set_ 2 (.int .i64 R2))
      have hbf : Below w.heap.size w (((wr.setCell ⟨w.heap.size + 1, 0, none⟩ (.int .i64 R0)).setCell ⟨w.heap.size + 1, 1, none⟩ (.int .i64 R1)).setCell ⟨w.heap.size + 1, 2, none⟩ (.int .i64 R2)) := (((hb.setCell (p := ⟨w.heap.size + 1, 0, none⟩) (by dsimp only; omega) (.int .i64 R0)).setCell (p := ⟨w.heap.size + 1, 1, none⟩) (by dsimp only; omega) (.int .i64 R1)).setCell (p := ⟨w.heap.size + 1, 2, none⟩) (by dsimp only; omega) (.int .i64 R2))
      go_wp2
      generalize (((wr.setCell ⟨w.heap.size + 1, 0, none⟩ (.int .i64 R0)).setCell ⟨w.heap.size + 1, 1, none⟩ (.int .i64 R1)).setCell ⟨w.heap.size + 1, 2, none⟩ (.int .i64 R2)) = wf at *
      have f0 : wf.cell? ⟨w.heap.size + 1, 0, none⟩ = some (.int .i64 R0) := hf.cell 0
      have f1 : wf.cell? ⟨w.heap.size + 1, 1, none⟩ = some (.int .i64 R1) := hf.cell 1
      have f2 : wf.cell? ⟨w.heap.size + 1, 2, none⟩ = some (.int .i64 R2) := hf.cell 2
      simp [bodyPost, results, Try.results48, go_sem, f0, f1, f2]
      exact ⟨by rw [HJ.out]; exact ⟨rfl, rfl, rfl⟩, hbf⟩

set_option maxHeartbeats 8000000 in
theorem t_run_C (x y a : Int) (w : World) (h0 : Near 0 (x, y, a)) :
    Calls Try.prog 48 #[.agg #[.int .i64 x, .int .i64 y, .int .i64 a], .func (.func 50) #[] #[]] w fun e w' => e = .returned (.agg #[.int .i64 (iterP stepC 31 (x, y, a)).1, .int .i64 (iterP stepC 31 (x, y, a)).2.1, .int .i64 (iterP stepC 31 (x, y, a)).2.2]) ∧ Below w.heap.size w w' := by
  have hp : Blk ((w.alloc (.cells #[.int .i64 x, .int .i64 y, .int .i64 a] 70)).alloc (.cells #[.int .i64 0, .int .i64 0, .int .i64 0] 70)) w.heap.size 70 #[.int .i64 x, .int .i64 y, .int .i64 a] := (Blk.new w _ _).alloc _
  have hr : Blk ((w.alloc (.cells #[.int .i64 x, .int .i64 y, .int .i64 a] 70)).alloc (.cells #[.int .i64 0, .int .i64 0, .int .i64 0] 70)) (w.heap.size + 1) 70 #[.int .i64 0, .int .i64 0, .int .i64 0] := by have := Blk.new (w.alloc (.cells #[.int .i64 x, .int .i64 y, .int .i64 a] 70)) 70 #[.int .i64 0, .int .i64 0, .int .i64 0]; simpa using this
  have hb : Below w.heap.size w ((w.alloc (.cells #[.int .i64 x, .int .i64 y, .int .i64 a] 70)).alloc (.cells #[.int .i64 0, .int .i64 0, .int .i64 0] 70)) := ((Below.refl _ w).alloc (Nat.le_refl _) _).alloc (by simp) _
  go_enter Try.func48, Try.ntmps48
  go_wp2_with fail
  generalize (w.alloc (.cells #[.int .i64 x, .int .i64 y, .int .i64 a] 70)).alloc (.cells #[.int .i64 0, .int .i64 0, .int .i64 0] 70) = W0 at *
  go_loopw [8] (fun i wr => ∃ j : Nat, j ≤ 31 ∧ i = .int .i64 j ∧ Blk wr w.heap.size 70 #[.int .i64 (iterP stepC j (x, y, a)).1, .int .i64 (iterP stepC j (x, y, a)).2.1, .int .i64 (iterP stepC j (x, y, a)).2.2] ∧ Blk wr (w.heap.size + 1) 70 #[.int .i64 0, .int .i64 0, .int .i64 0] ∧ Below w.heap.size w wr) (fun i _ => 31 - (intOf i).toNat)
  case atStart => exact ⟨0, by omega, rfl, hp, hr, hb⟩
  case round =>
    clear hp hr hb
    obtain ⟨j, hj, rfl, hp, hr, hb⟩ := hrel
    have hN := near_C (x, y, a) h0 j hj
    by_cases hlt : j < 31
    · have k2 : (j : Int) < 31 := by omega
      have ej : IntKind.i64.wrap ((j : Int) + 1) = ((j + 1 : Nat) : Int) := (IntWalk.i64_in _ (by omega)).trans (by omega)
      have hbn := bn_bd j (by omega)
      obtain ⟨R, HJ⟩ : ∃ R, Hid (R = iterP stepC (j + 1) (x, y, a)) := ⟨_, rfl⟩
      have HI : Hid (R = stepC j (iterP stepC j (x, y, a))) := HJ
      generalize iterP stepC j (x, y, a) = h1 at *
      obtain ⟨x1, y1, a1⟩ := h1
      obtain ⟨R0, R1, R2⟩ := R
      simp only at hp hr
      have HC := hid fun w => c_Circle x1 y1 a1 w
      have HT := hid fun up w => t_turned j up x1 y1 a1 (bnP j) w hlt hbn hN.1 hN.2.1 (by have := hN.2.2; simp only at this; omega)
      clear hbn hN h0
      have c0 : wr.cell? ⟨w.heap.size, 0, none⟩ = some (.int .i64 x1) := hp.cell 0
      have c1 : wr.cell? ⟨w.heap.size, 1, none⟩ = some (.int .i64 y1) := hp.cell 1
      have c2 : wr.cell? ⟨w.heap.size, 2, none⟩ = some (.int .i64 a1) := hp.cell 2
      have HE : Hid ((R0, R1, R2) = turnP j (decide (0 ≤ a1)) x1 y1 a1) := HI
      go_wp2_with fail
      refine (HC.out _).mono ?_
      rintro e w3 ⟨rfl, b3⟩
      replace hp := hp.below b3 hp.lt
      replace hr := hr.below b3 hr.lt
      replace hb := hb.trans (b3.mono hb.size)
      clear c0 c1 c2
      have c0 : w3.cell? ⟨w.heap.size, 0, none⟩ = some (.int .i64 x1) := hp.cell 0
      have c1 : w3.cell? ⟨w.heap.size, 1, none⟩ = some (.int .i64 y1) := hp.cell 1
      have c2 : w3.cell? ⟨w.heap.size, 2, none⟩ = some (.int .i64 a1) := hp.cell 2
      go_wp2_with fail
      have HT2 := hid (HT.out (decide (0 ≤ a1)) w3)
      clear HT
      rw [show turnP j (decide (0 ≤ a1)) x1 y1 a1 = (R0, R1, R2) from HE.out.symm] at HT2
      refine (HT2.out).mono ?_
      rintro e w4 ⟨rfl, b4⟩
      replace hp := hp.below b4 hp.lt
      replace hr := hr.below b4 hr.lt
      replace hb := hb.trans (b4.mono hb.size)
      clear c0 c1 c2
      have d0 : w4.cell? ⟨w.heap.size, 0, none⟩ = some (.int .i64 x1) := hp.cell 0
      have z0 := hp.frozen 0
      have d1 : w4.cell? ⟨w.heap.size, 1, none⟩ = some (.int .i64 y1) := hp.cell 1
      have z1 := hp.frozen 1
      have d2 : w4.cell? ⟨w.heap.size, 2, none⟩ = some (.int .i64 a1) := hp.cell 2
      have z2 := hp.frozen 2
      go_wp2
      go_roundw
      case rel => exact ⟨j + 1, by omega, rfl, by rw [← show (R0, R1, R2) = iterP stepC (j + 1) (x, y, a) from HJ.out]; exact (((hp.set_ 0 (.int .i64 R0)).set_ 1 (.int .i64 R1)).set_ 2 (.int .i64 R2)), (((hr.far (p := ⟨w.heap.size, 0, none⟩) (by dsimp only; omega) (.int .i64 R0)).far (p := ⟨w.heap.size, 1, none⟩) (by dsimp only; omega) (.int .i64 R1)).far (p := ⟨w.heap.size, 2, none⟩) (by dsimp only; omega) (.int .i64 R2)), (((hb.setCell (p := ⟨w.heap.size, 0, none⟩) (by dsimp only; omega) (.int .i64 R0)).setCell (p := ⟨w.heap.size, 1, none⟩) (by dsimp only; omega) (.int .i64 R1)).setCell (p := ⟨w.heap.size, 2, none⟩) (by dsimp only; omega) (.int .i64 R2))⟩
      case measure => simp [intOf]; omega
    · obtain rfl : j = 31 := by omega
      clear hN h0
      obtain ⟨⟨R0, R1, R2⟩, HJ⟩ : ∃ R, Hid (iterP stepC 31 (x, y, a) = R) := ⟨_, rfl⟩
      rw [HJ.out] at hp
      simp only at hp
      have c0 : wr.cell? ⟨w.heap.size, 0, none⟩ = some (.int .i64 R0) := hp.cell 0
      have d0 : wr.cell? ⟨w.heap.size + 1, 0, none⟩ = some (.int .i64 0) := hr.cell 0
      have z0 := hr.frozen 0
      have c1 : wr.cell? ⟨w.heap.size, 1, none⟩ = some (.int .i64 R1) := hp.cell 1
      have d1 : wr.cell? ⟨w.heap.size + 1, 1, none⟩ = some (.int .i64 0) := hr.cell 1
      have z1 := hr.frozen 1
      have c2 : wr.cell? ⟨w.heap.size, 2, none⟩ = some (.int .i64 R2) := hp.cell 2
      have d2 : wr.cell? ⟨w.heap.size + 1, 2, none⟩ = some (.int .i64 0) := hr.cell 2
      have z2 := hr.frozen 2
      have hf : Blk (((wr.setCell ⟨w.heap.size + 1, 0, none⟩ (.int .i64 R0)).setCell ⟨w.heap.size + 1, 1, none⟩ (.int .i64 R1)).setCell ⟨w.heap.size + 1, 2, none⟩ (.int .i64 R2)) (w.heap.size + 1) 70 #[.int .i64 R0, .int .i64 R1, .int .i64 R2] := (((hr.set_ 0 (.int .i64 R0)).set_ 1 (.int .i64 R1)).set_ 2 (.int .i64 R2))
      have hbf : Below w.heap.size w (((wr.setCell ⟨w.heap.size + 1, 0, none⟩ (.int .i64 R0)).setCell ⟨w.heap.size + 1, 1, none⟩ (.int .i64 R1)).setCell ⟨w.heap.size + 1, 2, none⟩ (.int .i64 R2)) := (((hb.setCell (p := ⟨w.heap.size + 1, 0, none⟩) (by dsimp only; omega) (.int .i64 R0)).setCell (p := ⟨w.heap.size + 1, 1, none⟩) (by dsimp only; omega) (.int .i64 R1)).setCell (p := ⟨w.heap.size + 1, 2, none⟩) (by dsimp only; omega) (.int .i64 R2))
      go_wp2
      generalize (((wr.setCell ⟨w.heap.size + 1, 0, none⟩ (.int .i64 R0)).setCell ⟨w.heap.size + 1, 1, none⟩ (.int .i64 R1)).setCell ⟨w.heap.size + 1, 2, none⟩ (.int .i64 R2)) = wf at *
      have f0 : wf.cell? ⟨w.heap.size + 1, 0, none⟩ = some (.int .i64 R0) := hf.cell 0
      have f1 : wf.cell? ⟨w.heap.size + 1, 1, none⟩ = some (.int .i64 R1) := hf.cell 1
      have f2 : wf.cell? ⟨w.heap.size + 1, 2, none⟩ = some (.int .i64 R2) := hf.cell 2
      simp [bodyPost, results, Try.results48, go_sem, f0, f1, f2]
      exact ⟨by rw [HJ.out]; exact ⟨rfl, rfl, rfl⟩, hbf⟩
end Go.Proofs.Ytfogjfmpgfcolaa
