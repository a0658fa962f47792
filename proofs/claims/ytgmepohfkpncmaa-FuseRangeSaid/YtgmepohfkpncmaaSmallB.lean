/- Chapter 12: which is the farthest; a part's sign. -/
import Derived.Test.YtgmepohfkpncmaaSmall
namespace Go.Proofs.Ytgmepohfkpncmaa
open Go.RowKit
set_option linter.unusedVariables false
set_option linter.unusedSimpArgs false

def fStep (s : Nat × Int) (i : Nat) (x : Int) : Nat × Int := if s.2 < absP x then (i, absP x) else s
def fAt (l0 l1 l2 l3 : Int) : Nat → Nat × Int
  | 0 => (0, -1)
  | 1 => fStep (0, -1) 0 l0
  | 2 => fStep (fStep (0, -1) 0 l0) 1 l1
  | 3 => fStep (fStep (fStep (0, -1) 0 l0) 1 l1) 2 l2
  | _ => fStep (fStep (fStep (fStep (0, -1) 0 l0) 1 l1) 2 l2) 3 l3
def farI (l0 l1 l2 l3 : Int) : Nat := (fAt l0 l1 l2 l3 4).1
theorem fStep_lt (s : Nat × Int) (i : Nat) (x : Int) (hs : s.1 < 4) (hi : i < 4) : (fStep s i x).1 < 4 := by unfold fStep; split <;> assumption
theorem far_lt (l0 l1 l2 l3 : Int) : farI l0 l1 l2 l3 < 4 := fStep_lt _ _ _ (fStep_lt _ _ _ (fStep_lt _ _ _ (fStep_lt _ _ _ (by decide) (by decide)) (by decide)) (by decide)) (by decide)
theorem info32i : (Try.prog.info? 21).map (·.size) = some 1 := by kernel_rfl
theorem idx4 (j : Nat) (l0 l1 l2 l3 x : Int) (hj : j < 4) (hx : #[Value.int .i32 l0, Value.int .i32 l1, Value.int .i32 l2, Value.int .i32 l3][j]? = some (.int .i32 x)) (w : World) :
    (Instr.index 65 (.agg #[.int .i32 l0, .int .i32 l1, .int .i32 l2, .int .i32 l3]) (.int .i64 (j : Int))).run Try.prog w = .ok (.int .i32 x) w := by
  have hu : Try.prog.underlying 65 = some (.array 4 21) := Try.underlying65
  cases hq : Try.prog.info? 21 with
  | none => have := info32i; rw [hq] at this; cases this
  | some i =>
    have hs : i.size = 1 := by have := info32i; rw [hq] at this; simpa using this
    have ha : Try.prog.underlying 21 = some (.int .i32) := Try.underlying21
    have k1 : (j : Int) < 4 := by omega
    have hx2 : [Value.int .i32 l0, Value.int .i32 l1, Value.int .i32 l2, Value.int .i32 l3][j]? = some (.int .i32 x) := by simpa using hx
    simp [Instr.index, asIntOf, run_underlying hu, run_underlying ha, sizeOf, typeInfo, hq, hs, k1, part, isAgg, hj, hx2]
    exact (List.getElem?_eq_some_iff.1 hx2).2
set_option maxRecDepth 20000 in
set_option maxHeartbeats 4000000 in
theorem s_farthest (l0 l1 l2 l3 : Int) (w : World) (il0 : I32 l0) (il1 : I32 l1) (il2 : I32 l2) (il3 : I32 l3) :
    Calls Try.prog 30 #[.agg #[.int .i32 l0, .int .i32 l1, .int .i32 l2, .int .i32 l3]] w fun e w' => e = .returned (.int .i64 (farI l0 l1 l2 l3 : Nat)) ∧ Below w.heap.size w w' := by
  have hb : Below w.heap.size w (w.alloc (.cells #[.int .i32 l0, .int .i32 l1, .int .i32 l2, .int .i32 l3] 65)) := (Below.refl _ w).alloc (Nat.le_refl _) _
  have HB := hid hb
  clear hb
  have hix0 : ∀ w, (Instr.index 65 (.agg #[.int .i32 l0, .int .i32 l1, .int .i32 l2, .int .i32 l3]) (.int .i64 0)).run Try.prog w = .ok (.int .i32 l0) w := idx4 0 l0 l1 l2 l3 l0 (by omega) rfl
  have hix1 : ∀ w, (Instr.index 65 (.agg #[.int .i32 l0, .int .i32 l1, .int .i32 l2, .int .i32 l3]) (.int .i64 1)).run Try.prog w = .ok (.int .i32 l1) w := idx4 1 l0 l1 l2 l3 l1 (by omega) rfl
  have hix2 : ∀ w, (Instr.index 65 (.agg #[.int .i32 l0, .int .i32 l1, .int .i32 l2, .int .i32 l3]) (.int .i64 2)).run Try.prog w = .ok (.int .i32 l2) w := idx4 2 l0 l1 l2 l3 l2 (by omega) rfl
  have hix3 : ∀ w, (Instr.index 65 (.agg #[.int .i32 l0, .int .i32 l1, .int .i32 l2, .int .i32 l3]) (.int .i64 3)).run Try.prog w = .ok (.int .i32 l3) w := idx4 3 l0 l1 l2 l3 l3 (by omega) rfl
  go_enter Try.func30, Try.ntmps30
  go_wp2_with fail
  generalize w.alloc (.cells #[.int .i32 l0, .int .i32 l1, .int .i32 l2, .int .i32 l3] 65) = W0 at *
  go_loop [3, 4, 9] (fun vb vf vi => ∃ j : Nat, j ≤ 4 ∧ vi = .int .i64 j ∧ vb = .int .i64 ((fAt l0 l1 l2 l3 j).1 : Nat) ∧ vf = .int .i64 (fAt l0 l1 l2 l3 j).2) (fun _ _ vi => 4 - (intOf vi).toNat)
  case atStart => exact ⟨0, by omega, rfl, rfl, rfl⟩
  case round =>
    obtain ⟨j, hj, rfl, rfl, rfl⟩ := hrel
    obtain rfl | rfl | rfl | rfl | rfl : j = 0 ∨ j = 1 ∨ j = 2 ∨ j = 3 ∨ j = 4 := by omega
    · have HS : Hid (fAt l0 l1 l2 l3 1 = fStep (fAt l0 l1 l2 l3 0) 0 l0) := rfl
      obtain ⟨⟨B, D⟩, HD⟩ : ∃ s, Hid (fAt l0 l1 l2 l3 0 = s) := ⟨_, rfl⟩
      rw [HD.out] at HS ⊢
      have u0 : IntKind.i64.wrap l0 = l0 := IntWalk.i64_in _ (by unfold I32 at *; omega)
      have u1 : IntKind.i64.wrap (-l0) = -l0 := IntWalk.i64_in _ (by unfold I32 at *; omega)
      have u2 : wrap64 (-l0) = -l0 := IntWalk.wrap64_in _ (by unfold I32 at *; omega)
      have hm : max l0 (-l0) = absP l0 := by unfold absP; split <;> omega
      have hm2 : (if l0 < -l0 then -l0 else l0) = absP l0 := by unfold absP; split <;> split <;> omega
      by_cases g : D < absP l0
      · have HN : Hid (fAt l0 l1 l2 l3 1 = (0, absP l0)) := hid (by rw [HS.out]; simp only [fStep, if_pos g])
        clear HS HD
        simp only
        go_wp2
        go_round
        case rel => exact ⟨1, by omega, rfl, by rw [HN.out] <;> rfl, by rw [HN.out] <;> rfl⟩
        case measure => simp [intOf]
      · have HN : Hid (fAt l0 l1 l2 l3 1 = (B, D)) := hid (by rw [HS.out]; simp only [fStep, if_neg g])
        clear HS HD
        simp only
        go_wp2
        go_round
        case rel => exact ⟨1, by omega, rfl, by rw [HN.out] <;> rfl, by rw [HN.out] <;> rfl⟩
        case measure => simp [intOf]
    · have HS : Hid (fAt l0 l1 l2 l3 2 = fStep (fAt l0 l1 l2 l3 1) 1 l1) := rfl
      obtain ⟨⟨B, D⟩, HD⟩ : ∃ s, Hid (fAt l0 l1 l2 l3 1 = s) := ⟨_, rfl⟩
      rw [HD.out] at HS ⊢
      have u0 : IntKind.i64.wrap l1 = l1 := IntWalk.i64_in _ (by unfold I32 at *; omega)
      have u1 : IntKind.i64.wrap (-l1) = -l1 := IntWalk.i64_in _ (by unfold I32 at *; omega)
      have u2 : wrap64 (-l1) = -l1 := IntWalk.wrap64_in _ (by unfold I32 at *; omega)
      have hm : max l1 (-l1) = absP l1 := by unfold absP; split <;> omega
      have hm2 : (if l1 < -l1 then -l1 else l1) = absP l1 := by unfold absP; split <;> split <;> omega
      by_cases g : D < absP l1
      · have HN : Hid (fAt l0 l1 l2 l3 2 = (1, absP l1)) := hid (by rw [HS.out]; simp only [fStep, if_pos g])
        clear HS HD
        simp only
        go_wp2
        go_round
        case rel => exact ⟨2, by omega, rfl, by rw [HN.out] <;> rfl, by rw [HN.out] <;> rfl⟩
        case measure => simp [intOf]
      · have HN : Hid (fAt l0 l1 l2 l3 2 = (B, D)) := hid (by rw [HS.out]; simp only [fStep, if_neg g])
        clear HS HD
        simp only
        go_wp2
        go_round
        case rel => exact ⟨2, by omega, rfl, by rw [HN.out] <;> rfl, by rw [HN.out] <;> rfl⟩
        case measure => simp [intOf]
    · have HS : Hid (fAt l0 l1 l2 l3 3 = fStep (fAt l0 l1 l2 l3 2) 2 l2) := rfl
      obtain ⟨⟨B, D⟩, HD⟩ : ∃ s, Hid (fAt l0 l1 l2 l3 2 = s) := ⟨_, rfl⟩
      rw [HD.out] at HS ⊢
      have u0 : IntKind.i64.wrap l2 = l2 := IntWalk.i64_in _ (by unfold I32 at *; omega)
      have u1 : IntKind.i64.wrap (-l2) = -l2 := IntWalk.i64_in _ (by unfold I32 at *; omega)
      have u2 : wrap64 (-l2) = -l2 := IntWalk.wrap64_in _ (by unfold I32 at *; omega)
      have hm : max l2 (-l2) = absP l2 := by unfold absP; split <;> omega
      have hm2 : (if l2 < -l2 then -l2 else l2) = absP l2 := by unfold absP; split <;> split <;> omega
      by_cases g : D < absP l2
      · have HN : Hid (fAt l0 l1 l2 l3 3 = (2, absP l2)) := hid (by rw [HS.out]; simp only [fStep, if_pos g])
        clear HS HD
        simp only
        go_wp2
        go_round
        case rel => exact ⟨3, by omega, rfl, by rw [HN.out] <;> rfl, by rw [HN.out] <;> rfl⟩
        case measure => simp [intOf]
      · have HN : Hid (fAt l0 l1 l2 l3 3 = (B, D)) := hid (by rw [HS.out]; simp only [fStep, if_neg g])
        clear HS HD
        simp only
        go_wp2
        go_round
        case rel => exact ⟨3, by omega, rfl, by rw [HN.out] <;> rfl, by rw [HN.out] <;> rfl⟩
        case measure => simp [intOf]
    · have HS : Hid (fAt l0 l1 l2 l3 4 = fStep (fAt l0 l1 l2 l3 3) 3 l3) := rfl
      obtain ⟨⟨B, D⟩, HD⟩ : ∃ s, Hid (fAt l0 l1 l2 l3 3 = s) := ⟨_, rfl⟩
      rw [HD.out] at HS ⊢
      have u0 : IntKind.i64.wrap l3 = l3 := IntWalk.i64_in _ (by unfold I32 at *; omega)
      have u1 : IntKind.i64.wrap (-l3) = -l3 := IntWalk.i64_in _ (by unfold I32 at *; omega)
      have u2 : wrap64 (-l3) = -l3 := IntWalk.wrap64_in _ (by unfold I32 at *; omega)
      have hm : max l3 (-l3) = absP l3 := by unfold absP; split <;> omega
      have hm2 : (if l3 < -l3 then -l3 else l3) = absP l3 := by unfold absP; split <;> split <;> omega
      by_cases g : D < absP l3
      · have HN : Hid (fAt l0 l1 l2 l3 4 = (3, absP l3)) := hid (by rw [HS.out]; simp only [fStep, if_pos g])
        clear HS HD
        simp only
        go_wp2
        go_round
        case rel => exact ⟨4, by omega, rfl, by rw [HN.out] <;> rfl, by rw [HN.out] <;> rfl⟩
        case measure => simp [intOf]
      · have HN : Hid (fAt l0 l1 l2 l3 4 = (B, D)) := hid (by rw [HS.out]; simp only [fStep, if_neg g])
        clear HS HD
        simp only
        go_wp2
        go_round
        case rel => exact ⟨4, by omega, rfl, by rw [HN.out] <;> rfl, by rw [HN.out] <;> rfl⟩
        case measure => simp [intOf]
    · have HF : Hid ((fAt l0 l1 l2 l3 4).1 = farI l0 l1 l2 l3) := rfl
      generalize fAt l0 l1 l2 l3 4 = s at *
      go_wp2
      go_ret
      exact ⟨by rw [← HF.out]; rfl, HB.out⟩
def sgnX (lb x : Int) : Int := if lb < 0 then -x else x
theorem c_signed (gl gb b : Nat) (l0 l1 l2 l3 lb x : Int) (w : World) (hb : b < 4) (ix : I32 x) (hlb : w.cell? ⟨gl, b, none⟩ = some (.int .i32 lb)) (hB : Blk w gb 3 #[.int .i64 b]) :
    Calls Try.prog 31 #[.int .i32 x, .pointer (some ⟨gl, 0, none⟩), .pointer (some ⟨gb, 0, none⟩)] w fun e w' => e = .returned (.int .i64 (sgnX lb x)) ∧ w = w' := by
  have c0 : w.cell? ⟨gb, 0, none⟩ = some (.int .i64 b) := hB.cell 0
  have k1 : (0 : Int) ≤ (b : Int) := by omega
  have k2 : (b : Int) < 4 := by omega
  have u0 : IntKind.i64.wrap x = x := IntWalk.i64_in _ (by unfold I32 at *; omega)
  have u1 : IntKind.i64.wrap (-x) = -x := IntWalk.i64_in _ (by unfold I32 at *; omega)
  by_cases g : lb < 0
  · have HS : Hid (sgnX lb x = -x) := hid (if_pos g)
    go_enter Try.func31, Try.ntmps31
    go_wp2
    go_ret
    exact ⟨by rw [HS.out]; rfl, rfl⟩
  · have HS : Hid (sgnX lb x = x) := hid (if_neg g)
    go_enter Try.func31, Try.ntmps31
    go_wp2
    go_ret
    exact ⟨by rw [HS.out]; rfl, rfl⟩
end Go.Proofs.Ytgmepohfkpncmaa
