/- Chapter 11: how far a quaternion is from one, and whether it is near enough. -/
import Derived.Test.YtgmepohfkpncmaaGreatUnitC
import Derived.Test.YtgmepohfkpncmaaGreatQuatJ
namespace Go.Proofs.YtgmepohfkpncmaaGreat
open Go.RowKit
set_option linter.unusedVariables false
set_option linter.unusedSimpArgs false

def offP (n : Int) : Int := if 1152921504606846976 < n then n - 1152921504606846976 else 1152921504606846976 - n

theorem u_Off (a0 a1 a2 a3 : Int) (w : World) (ia0 : I32 a0) (ia1 : I32 a1) (ia2 : I32 a2) (ia3 : I32 a3) :
    Calls Tryz.prog 95 #[.agg #[.int .i32 a0, .int .i32 a1, .int .i32 a2, .int .i32 a3]] w fun e w' => e = .returned (.int .u64 (offP (sqP [a0, a1, a2, a3]))) ∧ Below w.heap.size w w' := by
  have H1 := hid fun w => q_Norm a0 a1 a2 a3 w ia0 ia1 ia2 ia3
  obtain ⟨n0, n1⟩ := sqP_bd [a0, a1, a2, a3]
  generalize sqP [a0, a1, a2, a3] = n at *
  clear ia0 ia1 ia2 ia3
  have HO : Hid (max n 1152921504606846976 - min n 1152921504606846976 = offP n) := hid (by unfold offP; split <;> omega)
  have hb : Below w.heap.size w (w.alloc (.cells #[.int .i32 a0, .int .i32 a1, .int .i32 a2, .int .i32 a3] 23)) := (Below.refl _ w).alloc (Nat.le_refl _) _
  go_enter Tryz.func95, Tryz.ntmps95
  go_wp2_with fail
  refine (H1.out _).mono ?_
  rintro e w1 ⟨rfl, b1⟩
  go_wp2
  go_ret
  exact ⟨by rw [← HO.out]; rfl, hb.on b1⟩

theorem r11_Off (a0 a1 a2 a3 : Int) (w : World) (ia0 : I32 a0) (ia1 : I32 a1) (ia2 : I32 a2) (ia3 : I32 a3) :
    Calls Tryz.prog 100 #[.agg #[.int .i32 a0, .int .i32 a1, .int .i32 a2, .int .i32 a3]] w fun e w' => e = .returned (.int .u64 (offP (sqP [a0, a1, a2, a3]))) ∧ Below w.heap.size w w' := by
  have H1 := hid fun w => r10_Norm a0 a1 a2 a3 w ia0 ia1 ia2 ia3
  obtain ⟨n0, n1⟩ := sqP_bd [a0, a1, a2, a3]
  generalize sqP [a0, a1, a2, a3] = n at *
  clear ia0 ia1 ia2 ia3
  have hb : Below w.heap.size w (w.alloc (.cells #[.int .i32 a0, .int .i32 a1, .int .i32 a2, .int .i32 a3] 23)) := (Below.refl _ w).alloc (Nat.le_refl _) _
  by_cases g : 1152921504606846976 < n
  · have HO : Hid (offP n = n - 1152921504606846976) := hid (by unfold offP; rw [if_pos g])
    have u1 : IntKind.u64.wrap (n - 1152921504606846976) = n - 1152921504606846976 := IntWalk.u64_in _ (by omega)
    go_enter Tryz.func100, Tryz.ntmps100
    go_wp2_with fail
    refine (H1.out _).mono ?_
    rintro e w1 ⟨rfl, b1⟩
    go_wp2
    go_ret
    exact ⟨by rw [HO.out]; rfl, hb.on b1⟩
  · have HO : Hid (offP n = 1152921504606846976 - n) := hid (by unfold offP; rw [if_neg g])
    have u1 : IntKind.u64.wrap (1152921504606846976 - n) = 1152921504606846976 - n := IntWalk.u64_in _ (by omega)
    go_enter Tryz.func100, Tryz.ntmps100
    go_wp2_with fail
    refine (H1.out _).mono ?_
    rintro e w1 ⟨rfl, b1⟩
    go_wp2
    go_ret
    exact ⟨by rw [HO.out]; rfl, hb.on b1⟩

def isP (n : Int) : Bool := decide (offP n ≤ 1099511627776)
theorem u_Is (a0 a1 a2 a3 : Int) (w : World) (ia0 : I32 a0) (ia1 : I32 a1) (ia2 : I32 a2) (ia3 : I32 a3) :
    Calls Tryz.prog 65 #[.agg #[.int .i32 a0, .int .i32 a1, .int .i32 a2, .int .i32 a3]] w fun e w' => e = .returned (.bool (isP (sqP [a0, a1, a2, a3]))) ∧ Below w.heap.size w w' := by
  have H1 := hid fun w => u_Off a0 a1 a2 a3 w ia0 ia1 ia2 ia3
  have HI : Hid (isP (sqP [a0, a1, a2, a3]) = decide (offP (sqP [a0, a1, a2, a3]) ≤ 1099511627776)) := rfl
  generalize isP (sqP [a0, a1, a2, a3]) = B at *
  generalize offP (sqP [a0, a1, a2, a3]) = n at *
  clear ia0 ia1 ia2 ia3
  have hb : Below w.heap.size w (w.alloc (.cells #[.int .i32 a0, .int .i32 a1, .int .i32 a2, .int .i32 a3] 23)) := (Below.refl _ w).alloc (Nat.le_refl _) _
  go_enter Tryz.func65, Tryz.ntmps65
  go_wp2_with fail
  refine (H1.out _).mono ?_
  rintro e w1 ⟨rfl, b1⟩
  go_wp2
  go_ret
  exact ⟨by rw [HI.out]; rfl, hb.on b1⟩
theorem r11_Is (a0 a1 a2 a3 : Int) (w : World) (ia0 : I32 a0) (ia1 : I32 a1) (ia2 : I32 a2) (ia3 : I32 a3) :
    Calls Tryz.prog 72 #[.agg #[.int .i32 a0, .int .i32 a1, .int .i32 a2, .int .i32 a3]] w fun e w' => e = .returned (.bool (isP (sqP [a0, a1, a2, a3]))) ∧ Below w.heap.size w w' := by
  have H1 := hid fun w => r11_Off a0 a1 a2 a3 w ia0 ia1 ia2 ia3
  have HI : Hid (isP (sqP [a0, a1, a2, a3]) = decide (offP (sqP [a0, a1, a2, a3]) ≤ 1099511627776)) := rfl
  generalize isP (sqP [a0, a1, a2, a3]) = B at *
  generalize offP (sqP [a0, a1, a2, a3]) = n at *
  clear ia0 ia1 ia2 ia3
  have hb : Below w.heap.size w (w.alloc (.cells #[.int .i32 a0, .int .i32 a1, .int .i32 a2, .int .i32 a3] 23)) := (Below.refl _ w).alloc (Nat.le_refl _) _
  go_enter Tryz.func72, Tryz.ntmps72
  go_wp2_with fail
  refine (H1.out _).mono ?_
  rintro e w1 ⟨rfl, b1⟩
  go_wp2
  go_ret
  exact ⟨by rw [HI.out]; rfl, hb.on b1⟩

/-- Is a part at least 2^30 from 0? -/
def farB (x : Int) : Bool := decide (1073741824 ≤ x) || decide (x ≤ -1073741824)
theorem r11_far (x : Int) (w : World) :
    Calls Tryz.prog 94 #[.int .i32 x] w fun e w' => e = .returned (.bool (farB x)) ∧ w = w' := by
  by_cases g : 1073741824 ≤ x
  · have d1 : decide (1073741824 ≤ x) = true := by simpa using g
    have HB : Hid (farB x = true) := hid (by unfold farB; rw [d1]; rfl)
    clear g
    go_enter Tryz.func94, Tryz.ntmps94
    go_wp2
    go_ret
    exact ⟨by rw [HB.out]; rfl, rfl⟩
  · have d1 : decide (1073741824 ≤ x) = false := by simpa using g
    have HB : Hid (farB x = decide (x ≤ -1073741824)) := hid (by unfold farB; rw [d1]; rfl)
    clear g
    go_enter Tryz.func94, Tryz.ntmps94
    go_wp2
    go_ret
    exact ⟨by rw [HB.out]; rfl, rfl⟩
end Go.Proofs.YtgmepohfkpncmaaGreat
namespace Go.Proofs.YtgmepohfkpncmaaGreat
open Go.RowKit
set_option linter.unusedVariables false
set_option linter.unusedSimpArgs false

def intAt (v : Option Value) : Int := match v with | some (.int _ i) => i | _ => 0
/-- How much four cells may still grow. -/
def left4 (g : Nat) (w : World) : Nat := (8589934592 - (absP (intAt (w.cell? ⟨g, 0, none⟩)) + absP (intAt (w.cell? ⟨g, 1, none⟩)) + absP (intAt (w.cell? ⟨g, 2, none⟩)) + absP (intAt (w.cell? ⟨g, 3, none⟩)))).toNat
theorem left4_is {g : Nat} {w : World} {t : TypeId} {l0 l1 l2 l3 : Int} (h : Blk w g t #[.int .i32 l0, .int .i32 l1, .int .i32 l2, .int .i32 l3]) : left4 g w = (8589934592 - (absP l0 + absP l1 + absP l2 + absP l3)).toNat := by
  have e0 : w.cell? ⟨g, 0, none⟩ = some (.int .i32 l0) := h.cell 0
  have e1 : w.cell? ⟨g, 1, none⟩ = some (.int .i32 l1) := h.cell 1
  have e2 : w.cell? ⟨g, 2, none⟩ = some (.int .i32 l2) := h.cell 2
  have e3 : w.cell? ⟨g, 3, none⟩ = some (.int .i32 l3) := h.cell 3
  unfold left4
  rw [e0, e1, e2, e3]; rfl
theorem farB_iff (x : Int) : farB x = true ↔ (1073741824 ≤ x ∨ x ≤ -1073741824) := by unfold farB; simp
theorem farB_no (x : Int) : farB x = false ↔ (-1073741824 < x ∧ x < 1073741824) := by
  have := farB_iff x
  cases h : farB x <;> simp [h] at this ⊢ <;> omega
/-- As long as none is far they have not all grown. -/
theorem grow_key (a0 a1 a2 a3 : Int) (ia0 : I32 a0) (ia1 : I32 a1) (ia2 : I32 a2) (ia3 : I32 a3) (hz : 0 < farP [a0, a1, a2, a3]) (k : Nat) (hk : k ≤ shN (farP [a0, a1, a2, a3])) :
    ((farB (a0 * 2 ^ k) = false ∧ farB (a1 * 2 ^ k) = false ∧ farB (a2 * 2 ^ k) = false ∧ farB (a3 * 2 ^ k) = false) ∧ k < shN (farP [a0, a1, a2, a3]) ∧ ¬ (a0 * 2 ^ k = 0 ∧ a1 * 2 ^ k = 0 ∧ a2 * 2 ^ k = 0 ∧ a3 * 2 ^ k = 0)) ∨
    (¬ (farB (a0 * 2 ^ k) = false ∧ farB (a1 * 2 ^ k) = false ∧ farB (a2 * 2 ^ k) = false ∧ farB (a3 * 2 ^ k) = false) ∧ k = shN (farP [a0, a1, a2, a3])) := by
  obtain ⟨f0, f1, f2, f3⟩ := farP_facts [a0, a1, a2, a3] (by unfold I32 at *; simp; omega)
  obtain ⟨s1, s2, s3⟩ := shN_facts _ hz
  have hn := far_pos' a0 a1 a2 a3 hz
  simp only [farB_no]
  by_cases g : k < shN (farP [a0, a1, a2, a3])
  · left
    have h := s3 k g
    have q0 := mul_pow_bd a0 _ k (f2 a0 (by simp))
    have q1 := mul_pow_bd a1 _ k (f2 a1 (by simp))
    have q2 := mul_pow_bd a2 _ k (f2 a2 (by simp))
    have q3 := mul_pow_bd a3 _ k (f2 a3 (by simp))
    refine ⟨by omega, g, ?_⟩
    have hp : (2 : Int) ^ k ≠ 0 := Int.ne_of_gt (Int.pow_pos (by omega))
    simp only [Int.mul_eq_zero, hp, or_false]
    exact hn
  · right
    obtain rfl : k = shN (farP [a0, a1, a2, a3]) := by omega
    refine ⟨?_, rfl⟩
    rcases f3 with f3 | ⟨x, hx', f3⟩
    · omega
    · have e : farP [a0, a1, a2, a3] * 2 ^ shN (farP [a0, a1, a2, a3]) = x * 2 ^ shN (farP [a0, a1, a2, a3]) ∨ farP [a0, a1, a2, a3] * 2 ^ shN (farP [a0, a1, a2, a3]) = -(x * 2 ^ shN (farP [a0, a1, a2, a3])) := by
        rcases f3 with h | h
        · left; conv => lhs; lhs; rw [h]
        · right; conv => lhs; lhs; rw [h]
          rw [Int.neg_mul]
      simp only [List.mem_cons, List.not_mem_nil, or_false] at hx'
      generalize farP [a0, a1, a2, a3] * 2 ^ shN (farP [a0, a1, a2, a3]) = M at *
      rcases hx' with rfl | rfl | rfl | rfl <;> omega

set_option maxHeartbeats 16000000 in
theorem r11_Make (a0 a1 a2 a3 : Int) (w : World) (ia0 : I32 a0) (ia1 : I32 a1) (ia2 : I32 a2) (ia3 : I32 a3) :
    Calls Tryz.prog 64 #[.agg #[.int .i32 a0, .int .i32 a1, .int .i32 a2, .int .i32 a3]] w (Makes a0 a1 a2 a3 w) := by
  rcases far_zero a0 a1 a2 a3 ia0 ia1 ia2 ia3 with hz | hz
  · obtain ⟨rfl, rfl, rfl, rfl⟩ := far_zero' a0 a1 a2 a3 ia0 ia1 ia2 ia3 hz
    have HM : Hid (Ending.returned (.tuple #[.agg #[.int .i32 0, .int .i32 0, .int .i32 0, .int .i32 0], .bool false]) = .returned (.tuple #[.agg #[.int .i32 (makeP [0, 0, 0, 0] 0), .int .i32 (makeP [0, 0, 0, 0] 0), .int .i32 (makeP [0, 0, 0, 0] 0), .int .i32 (makeP [0, 0, 0, 0] 0)], .bool (decide (0 < farP [0, 0, 0, 0]))])) := by unfold makeP; rw [hz]; rfl
    clear hz ia0 ia1 ia2 ia3
    go_enter Tryz.func64, Tryz.ntmps64
    go_wp2
    simp [bodyPost, results, Tryz.results64, go_sem]
    exact ⟨HM.out, ((Below.refl _ w).alloc (Nat.le_refl _) _).alloc (by simp) _⟩
  · have hn := far_pos' a0 a1 a2 a3 hz
    go_enter Tryz.func64, Tryz.ntmps64
    go_upto_region 1 with fail
    have hp : Blk ((w.alloc (.cells #[.int .i32 a0, .int .i32 a1, .int .i32 a2, .int .i32 a3] 23)).alloc (.cells #[.int .i32 0, .int .i32 0, .int .i32 0, .int .i32 0] 23)) w.heap.size 23 #[.int .i32 a0, .int .i32 a1, .int .i32 a2, .int .i32 a3] := (Blk.new w _ _).alloc _
    have hr : Blk ((w.alloc (.cells #[.int .i32 a0, .int .i32 a1, .int .i32 a2, .int .i32 a3] 23)).alloc (.cells #[.int .i32 0, .int .i32 0, .int .i32 0, .int .i32 0] 23)) (w.heap.size + 1) 23 #[.int .i32 0, .int .i32 0, .int .i32 0, .int .i32 0] := by have := Blk.new (w.alloc (.cells #[.int .i32 a0, .int .i32 a1, .int .i32 a2, .int .i32 a3] 23)) 23 #[.int .i32 0, .int .i32 0, .int .i32 0, .int .i32 0]; simpa using this
    have hb : Below w.heap.size w ((w.alloc (.cells #[.int .i32 a0, .int .i32 a1, .int .i32 a2, .int .i32 a3] 23)).alloc (.cells #[.int .i32 0, .int .i32 0, .int .i32 0, .int .i32 0] 23)) := ((Below.refl _ w).alloc (Nat.le_refl _) _).alloc (by simp) _
    generalize (w.alloc (.cells #[.int .i32 a0, .int .i32 a1, .int .i32 a2, .int .i32 a3] 23)).alloc (.cells #[.int .i32 0, .int .i32 0, .int .i32 0, .int .i32 0] 23) = W0 at *
    go_cut [10] from 8 to 9 (fun x wx => x = .bool false ∧ wx = W0)
    case first =>
      have f0 : W0.cell? ⟨w.heap.size, 0, none⟩ = some (.int .i32 a0) := hp.cell 0
      have f1 : W0.cell? ⟨w.heap.size, 1, none⟩ = some (.int .i32 a1) := hp.cell 1
      have f2 : W0.cell? ⟨w.heap.size, 2, none⟩ = some (.int .i32 a2) := hp.cell 2
      have f3 : W0.cell? ⟨w.heap.size, 3, none⟩ = some (.int .i32 a3) := hp.cell 3
      go_wp2
      all_goals (try subst_vars)
      all_goals (go_meet)
      all_goals (exact ⟨rfl, rfl⟩)
    case rest =>
      obtain ⟨rfl, rfl⟩ := hcut
      clear hn
      have f0 : wc.cell? ⟨w.heap.size, 0, none⟩ = some (.int .i32 a0) := hp.cell 0
      have f1 : wc.cell? ⟨w.heap.size, 1, none⟩ = some (.int .i32 a1) := hp.cell 1
      have f2 : wc.cell? ⟨w.heap.size, 2, none⟩ = some (.int .i32 a2) := hp.cell 2
      have f3 : wc.cell? ⟨w.heap.size, 3, none⟩ = some (.int .i32 a3) := hp.cell 3
      have hs := hr.lt
      have ha := Blk.new wc 21 #[.int .i32 a0, .int .i32 a1, .int .i32 a2, .int .i32 a3]
      replace hr := hr.alloc (.cells #[.int .i32 a0, .int .i32 a1, .int .i32 a2, .int .i32 a3] 21)
      replace hb := hb.alloc hb.size (.cells #[.int .i32 a0, .int .i32 a1, .int .i32 a2, .int .i32 a3] 21)
      go_wp2
      clear f0 f1 f2 f3 hp
      generalize wc.alloc (.cells #[.int .i32 a0, .int .i32 a1, .int .i32 a2, .int .i32 a3] 21) = W1 at *
      generalize wc.heap.size = gA at *
      obtain ⟨n30, hG, hL1, hL2, hL3⟩ := up_facts [a0, a1, a2, a3] (by unfold I32 at *; simp; omega) hz
      simp only [List.mem_cons, List.not_mem_nil, or_false, forall_eq_or_imp, forall_eq] at hG hL3
      have HK := hid fun k => grow_key a0 a1 a2 a3 ia0 ia1 ia2 ia3 hz k
      unfold upN at *
      generalize hN : shN (farP [a0, a1, a2, a3]) = N at *
      obtain ⟨G0, G1, G2, G3⟩ := hG
      obtain ⟨M0, M1, M2, M3⟩ := hL3
      go_loopw [5] (fun s wr => ∃ (k : Nat) (l0 l1 l2 l3 : Int), k ≤ N ∧ Hid (l0 = a0 * 2 ^ k ∧ l1 = a1 * 2 ^ k ∧ l2 = a2 * 2 ^ k ∧ l3 = a3 * 2 ^ k) ∧ Blk wr (w.heap.size + 1) 23 #[.int .i32 0, .int .i32 0, .int .i32 0, .int .i32 0] ∧ Blk wr gA 21 #[.int .i32 l0, .int .i32 l1, .int .i32 l2, .int .i32 l3] ∧ Below w.heap.size w wr) (fun _ wr => left4 gA wr)
      case atStart => exact ⟨0, a0, a1, a2, a3, by omega, ⟨by simp, by simp, by simp, by simp⟩, hr, ha, hb⟩
      case round =>
        clear hr ha hb
        obtain ⟨k, l0, l1, l2, l3, hk, hl, hr, ha, hb⟩ := hrel
        have key := HK.out k hk
        have hl' := hl.out
        rw [← hl'.1, ← hl'.2.1, ← hl'.2.2.1, ← hl'.2.2.2] at key
        clear hl'
        have HF0 := hid fun w => r11_far l0 w
        have HF1 := hid fun w => r11_far l1 w
        have HF2 := hid fun w => r11_far l2 w
        have HF3 := hid fun w => r11_far l3 w
        have n0 := farB_no l0
        have n1 := farB_no l1
        have n2 := farB_no l2
        have n3 := farB_no l3
        generalize farB l0 = B0 at *
        generalize farB l1 = B1 at *
        generalize farB l2 = B2 at *
        generalize farB l3 = B3 at *
        have c0 : wr.cell? ⟨gA, 0, none⟩ = some (.int .i32 l0) := ha.cell 0
        have c1 : wr.cell? ⟨gA, 1, none⟩ = some (.int .i32 l1) := ha.cell 1
        have c2 : wr.cell? ⟨gA, 2, none⟩ = some (.int .i32 l2) := ha.cell 2
        have c3 : wr.cell? ⟨gA, 3, none⟩ = some (.int .i32 l3) := ha.cell 3
        have ml := left4_is ha
        have ML := hid ml
        clear ml
        go_upto_region 4 with fail
        go_cut [46] from 21 to 45 (fun x wx => x = .bool (!B0 && !B1 && !B2 && !B3) ∧ wx = wr)
        case first =>
          clear key n0 n1 n2 n3 hl
          cases B0
          · cases B1
            · cases B2
              · cases B3
                · go_wp2_with fail
                  refine (HF0.out _).mono ?_
                  rintro e w' ⟨rfl, rfl⟩
                  go_wp2_with fail
                  refine (HF1.out _).mono ?_
                  rintro e w' ⟨rfl, rfl⟩
                  go_wp2_with fail
                  refine (HF2.out _).mono ?_
                  rintro e w' ⟨rfl, rfl⟩
                  go_wp2_with fail
                  refine (HF3.out _).mono ?_
                  rintro e w' ⟨rfl, rfl⟩
                  go_wp2
                  go_meet
                  exact ⟨rfl, rfl⟩
                · go_wp2_with fail
                  refine (HF0.out _).mono ?_
                  rintro e w' ⟨rfl, rfl⟩
                  go_wp2_with fail
                  refine (HF1.out _).mono ?_
                  rintro e w' ⟨rfl, rfl⟩
                  go_wp2_with fail
                  refine (HF2.out _).mono ?_
                  rintro e w' ⟨rfl, rfl⟩
                  go_wp2_with fail
                  refine (HF3.out _).mono ?_
                  rintro e w' ⟨rfl, rfl⟩
                  go_wp2
                  go_meet
                  exact ⟨rfl, rfl⟩
              · go_wp2_with fail
                refine (HF0.out _).mono ?_
                rintro e w' ⟨rfl, rfl⟩
                go_wp2_with fail
                refine (HF1.out _).mono ?_
                rintro e w' ⟨rfl, rfl⟩
                go_wp2_with fail
                refine (HF2.out _).mono ?_
                rintro e w' ⟨rfl, rfl⟩
                go_wp2
                go_meet
                exact ⟨rfl, rfl⟩
            · go_wp2_with fail
              refine (HF0.out _).mono ?_
              rintro e w' ⟨rfl, rfl⟩
              go_wp2_with fail
              refine (HF1.out _).mono ?_
              rintro e w' ⟨rfl, rfl⟩
              go_wp2
              go_meet
              exact ⟨rfl, rfl⟩
          · go_wp2_with fail
            refine (HF0.out _).mono ?_
            rintro e w' ⟨rfl, rfl⟩
            go_wp2
            go_meet
            exact ⟨rfl, rfl⟩
        case rest =>
          obtain ⟨rfl, rfl⟩ := hcut
          have hs2 := hs
          rcases key with ⟨⟨rfl, rfl, rfl, rfl⟩, kN, hnz⟩ | ⟨hB, hkN⟩
          · replace n0 := n0.1 rfl
            replace n1 := n1.1 rfl
            replace n2 := n2.1 rfl
            replace n3 := n3.1 rfl
            have u0 : IntKind.i32.wrap (2 * l0) = 2 * l0 := IntWalk.i32_in _ (by omega)
            have u1 : IntKind.i32.wrap (2 * l1) = 2 * l1 := IntWalk.i32_in _ (by omega)
            have u2 : IntKind.i32.wrap (2 * l2) = 2 * l2 := IntWalk.i32_in _ (by omega)
            have u3 : IntKind.i32.wrap (2 * l3) = 2 * l3 := IntWalk.i32_in _ (by omega)
            clear c0 c1 c2 c3
            go_wp2
            go_loopw [5] (fun i wr => ∃ I m0 m1 m2 m3 : Int, i = .int .i64 I ∧ Hid (Up4 l0 l1 l2 l3 (2 * l0) (2 * l1) (2 * l2) (2 * l3) I m0 m1 m2 m3) ∧ Blk wr (w.heap.size + 1) 23 #[.int .i32 0, .int .i32 0, .int .i32 0, .int .i32 0] ∧ Blk wr gA 21 #[.int .i32 m0, .int .i32 m1, .int .i32 m2, .int .i32 m3] ∧ Below w.heap.size w wr) (fun i _ => 4 - (intOf i).toNat)
            case atStart => exact ⟨0, l0, l1, l2, l3, rfl, .inl ⟨rfl, rfl, rfl, rfl, rfl⟩, hr, ha, hb⟩
            case round =>
              clear hr ha hb
              obtain ⟨I, m0, m1, m2, m3, rfl, hcut, hr, ha, hb⟩ := hrel
              rcases hcut.out with ⟨rfl, rfl, rfl, rfl, rfl⟩ | ⟨rfl, rfl, rfl, rfl, rfl⟩ | ⟨rfl, rfl, rfl, rfl, rfl⟩ | ⟨rfl, rfl, rfl, rfl, rfl⟩ | ⟨rfl, rfl, rfl, rfl, rfl⟩
              · have c0 : wr.cell? ⟨gA, 0, none⟩ = some (.int .i32 l0) := ha.cell 0
                have z0 := ha.frozen 0
                clear hcut
                go_wp2
                go_round
                case rel => exact ⟨1, 2 * l0, l1, l2, l3, rfl, .inr (.inl ⟨rfl, rfl, rfl, rfl, rfl⟩), hr.fr gA 0 (by omega) _, ha.set_ 0 _, hb.sc gA 0 (by omega) _⟩
                case measure => simp [intOf]
              · have c0 : wr.cell? ⟨gA, 1, none⟩ = some (.int .i32 l1) := ha.cell 1
                have z0 := ha.frozen 1
                clear hcut
                go_wp2
                go_round
                case rel => exact ⟨2, 2 * l0, 2 * l1, l2, l3, rfl, .inr (.inr (.inl ⟨rfl, rfl, rfl, rfl, rfl⟩)), hr.fr gA 1 (by omega) _, ha.set_ 1 _, hb.sc gA 1 (by omega) _⟩
                case measure => simp [intOf]
              · have c0 : wr.cell? ⟨gA, 2, none⟩ = some (.int .i32 l2) := ha.cell 2
                have z0 := ha.frozen 2
                clear hcut
                go_wp2
                go_round
                case rel => exact ⟨3, 2 * l0, 2 * l1, 2 * l2, l3, rfl, .inr (.inr (.inr (.inl ⟨rfl, rfl, rfl, rfl, rfl⟩))), hr.fr gA 2 (by omega) _, ha.set_ 2 _, hb.sc gA 2 (by omega) _⟩
                case measure => simp [intOf]
              · have c0 : wr.cell? ⟨gA, 3, none⟩ = some (.int .i32 l3) := ha.cell 3
                have z0 := ha.frozen 3
                clear hcut
                go_wp2
                go_round
                case rel => exact ⟨4, 2 * l0, 2 * l1, 2 * l2, 2 * l3, rfl, .inr (.inr (.inr (.inr (⟨rfl, rfl, rfl, rfl, rfl⟩)))), hr.fr gA 3 (by omega) _, ha.set_ 3 _, hb.sc gA 3 (by omega) _⟩
                case measure => simp [intOf]
              · have mx := left4_is ha
                have MX : left4 gA wr < left4 gA wc := by
                  rw [mx, ML.out]
                  clear mx hcut u0 u1 u2 u3
                  unfold absP
                  omega
                have HL2 : Hid (2 * l0 = a0 * 2 ^ (k + 1) ∧ 2 * l1 = a1 * 2 ^ (k + 1) ∧ 2 * l2 = a2 * 2 ^ (k + 1) ∧ 2 * l3 = a3 * 2 ^ (k + 1)) := hid (by
                  obtain ⟨e0, e1, e2, e3⟩ := hl.out
                  rw [e0, e1, e2, e3]
                  simp only [pow_s, Int.mul_assoc, and_self])
                clear hcut mx hl
                go_wp2
                go_round
                case rel => exact ⟨k + 1, 2 * l0, 2 * l1, 2 * l2, 2 * l3, by omega, HL2, hr, ha, hb⟩
                case measure => exact MX
          · obtain rfl := hkN.symm
            obtain ⟨rfl, rfl, rfl, rfl⟩ := hl.out
            have hq : (!B0 && !B1 && !B2 && !B3) = false := by revert hB; cases B0 <;> cases B1 <;> cases B2 <;> cases B3 <;> simp
            clear hl hB n0 n1 n2 n3 HF0 HF1 HF2 HF3 ML c0 c1 c2 c3 HK
            have HL := hid fun w h => ref_Length (some ⟨gA, 0, none⟩) 4 4 [a0 * 2 ^ N, a1 * 2 ^ N, a2 * 2 ^ N, a3 * 2 ^ N] w h (by unfold I32 at *; simp; omega) (by omega)
            have HE : Hid (lenP [a0, a1, a2, a3] = rootP (sqP [a0 * 2 ^ N, a1 * 2 ^ N, a2 * 2 ^ N, a3 * 2 ^ N])) := hid (by have e : upN [a0, a1, a2, a3] = N := hN; unfold lenP upL; rw [e]; rfl)
            rw [HE.out] at hL1 hL2 M0 M1 M2 M3
            generalize rootP (sqP [a0 * 2 ^ N, a1 * 2 ^ N, a2 * 2 ^ N, a3 * 2 ^ N]) = L at *
            rw [hq]
            clear hq
            go_wp2_with fail
            refine (HL.out _ (Row.blk ha rfl ha.lt)).mono ?_
            rintro e w5 ⟨rfl, b5⟩
            replace hr := hr.below b5 hr.lt
            replace ha := ha.below b5 ha.lt
            replace hb := hb.on b5
            clear b5
            have o0 := over_one (a0 * 2 ^ N) L ⟨by omega, hL2⟩ M0 G0
            have HO0 := hid fun w => fxr_Over (a0 * 2 ^ N * 1073741824) L w (by unfold I32 I64 at *; omega) (by unfold I64; omega)
            rw [show a0 * 2 ^ N * 1073741824 = 1073741824 * (a0 * 2 ^ N) from Int.mul_comm _ _] at HO0 o0
            have m0 : IntKind.i64.wrap (1073741824 * (a0 * 2 ^ N)) = 1073741824 * (a0 * 2 ^ N) := IntWalk.i64_in _ (by unfold I32 at G0; omega)
            have x0 : IntKind.i32.wrap (overP (1073741824 * (a0 * 2 ^ N)) L) = overP (1073741824 * (a0 * 2 ^ N)) L := IntWalk.i32_in _ (by omega)
            have o1 := over_one (a1 * 2 ^ N) L ⟨by omega, hL2⟩ M1 G1
            have HO1 := hid fun w => fxr_Over (a1 * 2 ^ N * 1073741824) L w (by unfold I32 I64 at *; omega) (by unfold I64; omega)
            rw [show a1 * 2 ^ N * 1073741824 = 1073741824 * (a1 * 2 ^ N) from Int.mul_comm _ _] at HO1 o1
            have m1 : IntKind.i64.wrap (1073741824 * (a1 * 2 ^ N)) = 1073741824 * (a1 * 2 ^ N) := IntWalk.i64_in _ (by unfold I32 at G1; omega)
            have x1 : IntKind.i32.wrap (overP (1073741824 * (a1 * 2 ^ N)) L) = overP (1073741824 * (a1 * 2 ^ N)) L := IntWalk.i32_in _ (by omega)
            have o2 := over_one (a2 * 2 ^ N) L ⟨by omega, hL2⟩ M2 G2
            have HO2 := hid fun w => fxr_Over (a2 * 2 ^ N * 1073741824) L w (by unfold I32 I64 at *; omega) (by unfold I64; omega)
            rw [show a2 * 2 ^ N * 1073741824 = 1073741824 * (a2 * 2 ^ N) from Int.mul_comm _ _] at HO2 o2
            have m2 : IntKind.i64.wrap (1073741824 * (a2 * 2 ^ N)) = 1073741824 * (a2 * 2 ^ N) := IntWalk.i64_in _ (by unfold I32 at G2; omega)
            have x2 : IntKind.i32.wrap (overP (1073741824 * (a2 * 2 ^ N)) L) = overP (1073741824 * (a2 * 2 ^ N)) L := IntWalk.i32_in _ (by omega)
            have o3 := over_one (a3 * 2 ^ N) L ⟨by omega, hL2⟩ M3 G3
            have HO3 := hid fun w => fxr_Over (a3 * 2 ^ N * 1073741824) L w (by unfold I32 I64 at *; omega) (by unfold I64; omega)
            rw [show a3 * 2 ^ N * 1073741824 = 1073741824 * (a3 * 2 ^ N) from Int.mul_comm _ _] at HO3 o3
            have m3 : IntKind.i64.wrap (1073741824 * (a3 * 2 ^ N)) = 1073741824 * (a3 * 2 ^ N) := IntWalk.i64_in _ (by unfold I32 at G3; omega)
            have x3 : IntKind.i32.wrap (overP (1073741824 * (a3 * 2 ^ N)) L) = overP (1073741824 * (a3 * 2 ^ N)) L := IntWalk.i32_in _ (by omega)
            go_wp2
            go_loopw [7] (fun i wr => ∃ I l0 l1 l2 l3 : Int, i = .int .i64 I ∧ Hid (Up4 (a0 * 2 ^ N) (a1 * 2 ^ N) (a2 * 2 ^ N) (a3 * 2 ^ N) (overP (1073741824 * (a0 * 2 ^ N)) L) (overP (1073741824 * (a1 * 2 ^ N)) L) (overP (1073741824 * (a2 * 2 ^ N)) L) (overP (1073741824 * (a3 * 2 ^ N)) L) I l0 l1 l2 l3) ∧ Blk wr (w.heap.size + 1) 23 #[.int .i32 0, .int .i32 0, .int .i32 0, .int .i32 0] ∧ Blk wr gA 21 #[.int .i32 l0, .int .i32 l1, .int .i32 l2, .int .i32 l3] ∧ Below w.heap.size w wr) (fun i _ => 4 - (intOf i).toNat)
            case atStart => exact ⟨0, a0 * 2 ^ N, a1 * 2 ^ N, a2 * 2 ^ N, a3 * 2 ^ N, rfl, .inl ⟨rfl, rfl, rfl, rfl, rfl⟩, hr, ha, hb⟩
            case round =>
              clear hr ha hb
              obtain ⟨I, l0, l1, l2, l3, rfl, hcut, hr, ha, hb⟩ := hrel
              rcases hcut.out with ⟨rfl, rfl, rfl, rfl, rfl⟩ | ⟨rfl, rfl, rfl, rfl, rfl⟩ | ⟨rfl, rfl, rfl, rfl, rfl⟩ | ⟨rfl, rfl, rfl, rfl, rfl⟩ | ⟨rfl, rfl, rfl, rfl, rfl⟩
              · have y0 : wr.cell? ⟨gA, 0, none⟩ = some (.int .i32 (a0 * 2 ^ N)) := ha.cell 0
                have z0 := ha.frozen 0
                clear hcut
                go_wp2_with fail
                refine (HO0.out _).mono ?_
                rintro e w' ⟨rfl, rfl⟩
                go_wp2
                go_round
                case rel => exact ⟨1, (overP (1073741824 * (a0 * 2 ^ N)) L), (a1 * 2 ^ N), (a2 * 2 ^ N), (a3 * 2 ^ N), rfl, .inr (.inl ⟨rfl, rfl, rfl, rfl, rfl⟩), hr.fr gA 0 (by omega) _, ha.set_ 0 _, hb.sc gA 0 (by omega) _⟩
                case measure => simp [intOf]
              · have y0 : wr.cell? ⟨gA, 1, none⟩ = some (.int .i32 (a1 * 2 ^ N)) := ha.cell 1
                have z0 := ha.frozen 1
                clear hcut
                go_wp2_with fail
                refine (HO1.out _).mono ?_
                rintro e w' ⟨rfl, rfl⟩
                go_wp2
                go_round
                case rel => exact ⟨2, (overP (1073741824 * (a0 * 2 ^ N)) L), (overP (1073741824 * (a1 * 2 ^ N)) L), (a2 * 2 ^ N), (a3 * 2 ^ N), rfl, .inr (.inr (.inl ⟨rfl, rfl, rfl, rfl, rfl⟩)), hr.fr gA 1 (by omega) _, ha.set_ 1 _, hb.sc gA 1 (by omega) _⟩
                case measure => simp [intOf]
              · have y0 : wr.cell? ⟨gA, 2, none⟩ = some (.int .i32 (a2 * 2 ^ N)) := ha.cell 2
                have z0 := ha.frozen 2
                clear hcut
                go_wp2_with fail
                refine (HO2.out _).mono ?_
                rintro e w' ⟨rfl, rfl⟩
                go_wp2
                go_round
                case rel => exact ⟨3, (overP (1073741824 * (a0 * 2 ^ N)) L), (overP (1073741824 * (a1 * 2 ^ N)) L), (overP (1073741824 * (a2 * 2 ^ N)) L), (a3 * 2 ^ N), rfl, .inr (.inr (.inr (.inl ⟨rfl, rfl, rfl, rfl, rfl⟩))), hr.fr gA 2 (by omega) _, ha.set_ 2 _, hb.sc gA 2 (by omega) _⟩
                case measure => simp [intOf]
              · have y0 : wr.cell? ⟨gA, 3, none⟩ = some (.int .i32 (a3 * 2 ^ N)) := ha.cell 3
                have z0 := ha.frozen 3
                clear hcut
                go_wp2_with fail
                refine (HO3.out _).mono ?_
                rintro e w' ⟨rfl, rfl⟩
                go_wp2
                go_round
                case rel => exact ⟨4, (overP (1073741824 * (a0 * 2 ^ N)) L), (overP (1073741824 * (a1 * 2 ^ N)) L), (overP (1073741824 * (a2 * 2 ^ N)) L), (overP (1073741824 * (a3 * 2 ^ N)) L), rfl, .inr (.inr (.inr (.inr (⟨rfl, rfl, rfl, rfl, rfl⟩)))), hr.fr gA 3 (by omega) _, ha.set_ 3 _, hb.sc gA 3 (by omega) _⟩
                case measure => simp [intOf]
              · clear hcut
                have HF : Hid (∀ wf, Below w.heap.size w wf → Makes a0 a1 a2 a3 w (.returned (.tuple #[.agg #[.int .i32 (overP (1073741824 * (a0 * 2 ^ N)) L), .int .i32 (overP (1073741824 * (a1 * 2 ^ N)) L), .int .i32 (overP (1073741824 * (a2 * 2 ^ N)) L), .int .i32 (overP (1073741824 * (a3 * 2 ^ N)) L)], .bool true])) wf) := hid (fun wf hbf => by
                  have e1 : upN [a0, a1, a2, a3] = N := hN
                  have e2 : ¬ farP [a0, a1, a2, a3] = 0 := by omega
                  unfold Makes makeP oneP
                  rw [HE.out, e1, if_neg e2, if_neg e2, if_neg e2, if_neg e2, decide_eq_true hz]
                  rw [show a0 * 2 ^ N * 1073741824 = 1073741824 * (a0 * 2 ^ N) from Int.mul_comm _ _, show a1 * 2 ^ N * 1073741824 = 1073741824 * (a1 * 2 ^ N) from Int.mul_comm _ _, show a2 * 2 ^ N * 1073741824 = 1073741824 * (a2 * 2 ^ N) from Int.mul_comm _ _, show a3 * 2 ^ N * 1073741824 = 1073741824 * (a3 * 2 ^ N) from Int.mul_comm _ _]
                  exact ⟨rfl, hbf⟩)
                clear HO0 HO1 HO2 HO3 x0 x1 x2 x3 m0 m1 m2 m3 o0 o1 o2 o3
                generalize (overP (1073741824 * (a0 * 2 ^ N)) L) = U0 at *
                generalize (overP (1073741824 * (a1 * 2 ^ N)) L) = U1 at *
                generalize (overP (1073741824 * (a2 * 2 ^ N)) L) = U2 at *
                generalize (overP (1073741824 * (a3 * 2 ^ N)) L) = U3 at *
                go_upto_region 14 with fail
                refine wp_region_noPanic ?_
                refine wp_region_held_drew (S := (fun w' : World => w'.cell? ⟨gA, 0, none⟩ = some (.int .i32 U0) ∧ w'.cell? ⟨gA, 1, none⟩ = some (.int .i32 U1) ∧ w'.cell? ⟨gA, 2, none⟩ = some (.int .i32 U2) ∧ w'.cell? ⟨gA, 3, none⟩ = some (.int .i32 U3))) (by kernel_rfl) ⟨ha.cell 0, ha.cell 1, ha.cell 2, ha.cell 3⟩ (fun hH => ?_)
                refine (show wpAnyH _ _ _ _ _ 15 _ _ _ from ?_)
                try (simp only [Act.put, List.setIfInBounds_toArray, List.set_cons_zero, List.set_cons_succ])
                replace hr := hr.drew
                replace ha := ha.drew
                replace hb := hb.drew
                generalize wr.drew = w7 at *
                refine tk 0 hH ?_
                refine tk 1 hH ?_
                refine tk 2 hH ?_
                refine tk 3 hH ?_
                refine tk 4 hH ?_
                refine tk 5 hH ?_
                refine tk 6 hH ?_
                refine tk 7 hH ?_
                refine tk 8 hH ?_
                refine tk 9 hH ?_
                refine tk 10 hH ?_
                refine tk 11 hH ?_
                refine tk 12 hH ?_
                refine rd1 13 (fun K hK => ?_)
                have d0 : w7.cell? ⟨w.heap.size + 1, 0, none⟩ = some (.int .i32 0) := hr.cell 0
                have z0 := hr.frozen 0
                have d1 : w7.cell? ⟨w.heap.size + 1, 1, none⟩ = some (.int .i32 0) := hr.cell 1
                have z1 := hr.frozen 1
                have d2 : w7.cell? ⟨w.heap.size + 1, 2, none⟩ = some (.int .i32 0) := hr.cell 2
                have z2 := hr.frozen 2
                have d3 : w7.cell? ⟨w.heap.size + 1, 3, none⟩ = some (.int .i32 0) := hr.cell 3
                have z3 := hr.frozen 3
                go_simp
                try go_wp2_with fail
                replace ha := ((((ha.fr (w.heap.size + 1) 0 (by omega) (.int .i32 U0)).fr (w.heap.size + 1) 1 (by omega) (.int .i32 U1)).fr (w.heap.size + 1) 2 (by omega) (.int .i32 U2)).fr (w.heap.size + 1) 3 (by omega) (.int .i32 U3))
                replace hr := ((((hr.set_ 0 (.int .i32 U0)).set_ 1 (.int .i32 U1)).set_ 2 (.int .i32 U2)).set_ 3 (.int .i32 U3))
                replace hb := ((((hb.sc (w.heap.size + 1) 0 (by omega) (.int .i32 U0)).sc (w.heap.size + 1) 1 (by omega) (.int .i32 U1)).sc (w.heap.size + 1) 2 (by omega) (.int .i32 U2)).sc (w.heap.size + 1) 3 (by omega) (.int .i32 U3))
                clear d0 d1 d2 d3 z0 z1 z2 z3
                generalize ((((w7.setCell ⟨w.heap.size + 1, 0, none⟩ (.int .i32 U0)).setCell ⟨w.heap.size + 1, 1, none⟩ (.int .i32 U1)).setCell ⟨w.heap.size + 1, 2, none⟩ (.int .i32 U2)).setCell ⟨w.heap.size + 1, 3, none⟩ (.int .i32 U3)) = wf at *
                refine hK.out _ _ ⟨ha.cell 0, ha.cell 1, ha.cell 2, ha.cell 3⟩ (fun hH => ?_)
                clear hK K
                try (simp only [Act.put, List.setIfInBounds_toArray, List.set_cons_zero, List.set_cons_succ])
                refine tk 14 hH ?_
                refine wpAnyH_done ?hrz ?hqz _
                case hrz => kernel_rfl
                refine NoPanic.normal ?_
                try go_wp2_with fail
                have e0 : wf.cell? ⟨w.heap.size + 1, 0, none⟩ = some (.int .i32 U0) := hr.cell 0
                have e1 : wf.cell? ⟨w.heap.size + 1, 1, none⟩ = some (.int .i32 U1) := hr.cell 1
                have e2 : wf.cell? ⟨w.heap.size + 1, 2, none⟩ = some (.int .i32 U2) := hr.cell 2
                have e3 : wf.cell? ⟨w.heap.size + 1, 3, none⟩ = some (.int .i32 U3) := hr.cell 3
                go_wp2
                simp [bodyPost, results, Tryz.results64, go_sem, e0, e1, e2, e3]
                exact HF.out _ hb
end Go.Proofs.YtgmepohfkpncmaaGreat
namespace Go.Proofs.YtgmepohfkpncmaaGreat
open Go.RowKit
set_option linter.unusedVariables false
set_option linter.unusedSimpArgs false

theorem unit_norm (g0 g1 g2 g3 u0 u1 u2 u3 L S : Int) (hS : g0 * g0 + g1 * g1 + g2 * g2 + g3 * g3 = S) (h1 : L * L ≤ S) (h2 : S ≤ L * L + 2 * L + 1) (hL : 1073741824 ≤ L)
    (b0 : -L ≤ g0 ∧ g0 ≤ L) (b1 : -L ≤ g1 ∧ g1 ≤ L) (b2 : -L ≤ g2 ∧ g2 ≤ L) (b3 : -L ≤ g3 ∧ g3 ≤ L)
    (c0 : -L ≤ 2 * (L * u0 - g0 * 1073741824) ∧ 2 * (L * u0 - g0 * 1073741824) ≤ L) (c1 : -L ≤ 2 * (L * u1 - g1 * 1073741824) ∧ 2 * (L * u1 - g1 * 1073741824) ≤ L) (c2 : -L ≤ 2 * (L * u2 - g2 * 1073741824) ∧ 2 * (L * u2 - g2 * 1073741824) ≤ L) (c3 : -L ≤ 2 * (L * u3 - g3 * 1073741824) ∧ 2 * (L * u3 - g3 * 1073741824) ≤ L) :
    1152921496016912384 ≤ u0 * u0 + u1 * u1 + u2 * u2 + u3 * u3 ∧ u0 * u0 + u1 * u1 + u2 * u2 + u3 * u3 ≤ 1152921513196781568 := by
  obtain ⟨r0, e0⟩ : ∃ r, r = 2 * (L * u0 - g0 * 1073741824) := ⟨_, rfl⟩
  obtain ⟨r1, e1⟩ : ∃ r, r = 2 * (L * u1 - g1 * 1073741824) := ⟨_, rfl⟩
  obtain ⟨r2, e2⟩ : ∃ r, r = 2 * (L * u2 - g2 * 1073741824) := ⟨_, rfl⟩
  obtain ⟨r3, e3⟩ : ∃ r, r = 2 * (L * u3 - g3 * 1073741824) := ⟨_, rfl⟩
  rw [← e0] at c0
  rw [← e1] at c1
  rw [← e2] at c2
  rw [← e3] at c3
  have p0 := prod_bd g0 r0 L L b0 c0
  have p1 := prod_bd g1 r1 L L b1 c1
  have p2 := prod_bd g2 r2 L L b2 c2
  have p3 := prod_bd g3 r3 L L b3 c3
  have q0 := prod_bd r0 r0 L L c0 c0
  have q1 := prod_bd r1 r1 L L c1 c1
  have q2 := prod_bd r2 r2 L L c2 c2
  have q3 := prod_bd r3 r3 L L c3 c3
  have s0 := sq_nn r0
  have s1 := sq_nn r1
  have s2 := sq_nn r2
  have s3 := sq_nn r3
  have hQ : 1073741824 * L ≤ L * L := Int.mul_le_mul_of_nonneg_right hL (by omega)
  have E : 4 * (L * L * (u0 * u0 + u1 * u1 + u2 * u2 + u3 * u3)) = 4611686018427387904 * S + 4294967296 * (g0 * r0 + g1 * r1 + g2 * r2 + g3 * r3) + (r0 * r0 + r1 * r1 + r2 * r2 + r3 * r3) := by
    rw [← hS, e0, e1, e2, e3]; grind
  generalize u0 * u0 + u1 * u1 + u2 * u2 + u3 * u3 = N at *
  clear e0 e1 e2 e3 hS
  generalize hQQ : L * L = Q at *
  generalize hX : Q * N = X at *
  have hQ0 : 0 < Q := by omega
  constructor
  · have h : Q * 1152921496016912384 ≤ Q * N := by rw [hX]; omega
    exact Int.le_of_mul_le_mul_left h hQ0
  · have h : Q * N ≤ Q * 1152921513196781568 := by rw [hX]; omega
    exact Int.le_of_mul_le_mul_left h hQ0

theorem sqP_4 (a b c d : Int) : 0 ≤ sqP [a, b, c, d] ∧ sqP [a, b, c, d] ≤ 18446744073709551615 ∧ (sqP [a, b, c, d] < 18446744073709551615 → sqP [a, b, c, d] = a * a + b * b + c * c + d * d) ∧ (a * a + b * b + c * c + d * d ≤ 18446744073709551615 → sqP [a, b, c, d] = a * a + b * b + c * c + d * d) := by
  have h0 := sq_nn a
  have h1 := sq_nn b
  have h2 := sq_nn c
  have h3 := sq_nn d
  simp only [sqP, sqs]
  omega
theorem len_facts (xs : List Int) (hs : sqs (upL xs) ≤ 18446744073709551616) : lenP xs * lenP xs ≤ sqs (upL xs) ∧ sqs (upL xs) ≤ lenP xs * lenP xs + 2 * lenP xs + 1 := by
  have h := root_sq (sqP (upL xs)) (sqP_bd _).1
  have : sqP (upL xs) ≤ sqs (upL xs) ∧ sqs (upL xs) ≤ sqP (upL xs) + 1 := by unfold sqP; omega
  unfold lenP
  generalize rootP (sqP (upL xs)) = L at *
  omega
theorem unit_law (a0 a1 a2 a3 : Int) (ia0 : I32 a0) (ia1 : I32 a1) (ia2 : I32 a2) (ia3 : I32 a3) (hz : 0 < farP [a0, a1, a2, a3]) :
    1152921496016912384 ≤ sqP [makeP [a0, a1, a2, a3] a0, makeP [a0, a1, a2, a3] a1, makeP [a0, a1, a2, a3] a2, makeP [a0, a1, a2, a3] a3] ∧ sqP [makeP [a0, a1, a2, a3] a0, makeP [a0, a1, a2, a3] a1, makeP [a0, a1, a2, a3] a2, makeP [a0, a1, a2, a3] a3] ≤ 1152921513196781568 := by
  obtain ⟨n30, hG, hL1, hL2, hL3⟩ := up_facts [a0, a1, a2, a3] (by unfold I32 at *; simp; omega) hz
  have hm : ∀ x, makeP [a0, a1, a2, a3] x = oneP [a0, a1, a2, a3] x := fun x => by unfold makeP; rw [if_neg (by omega)]
  simp only [hm]
  have hu : upL [a0, a1, a2, a3] = [a0 * 2 ^ upN [a0, a1, a2, a3], a1 * 2 ^ upN [a0, a1, a2, a3], a2 * 2 ^ upN [a0, a1, a2, a3], a3 * 2 ^ upN [a0, a1, a2, a3]] := rfl
  simp only [List.mem_cons, List.not_mem_nil, or_false, forall_eq_or_imp, forall_eq] at hG hL3
  obtain ⟨G0, G1, G2, G3⟩ := hG
  obtain ⟨M0, M1, M2, M3⟩ := hL3
  have k0 := sq32 _ G0
  have k1 := sq32 _ G1
  have k2 := sq32 _ G2
  have k3 := sq32 _ G3
  have hf := len_facts [a0, a1, a2, a3] (by rw [hu]; simp only [sqs]; omega)
  rw [hu] at hf
  simp only [sqs] at hf
  have o : ∀ x, I32 (x * 2 ^ upN [a0, a1, a2, a3]) → -(lenP [a0, a1, a2, a3]) ≤ 2 * (lenP [a0, a1, a2, a3] * oneP [a0, a1, a2, a3] x - x * 2 ^ upN [a0, a1, a2, a3] * 1073741824) ∧ 2 * (lenP [a0, a1, a2, a3] * oneP [a0, a1, a2, a3] x - x * 2 ^ upN [a0, a1, a2, a3] * 1073741824) ≤ lenP [a0, a1, a2, a3] :=
    fun x hx => over_near _ _ (by unfold I32 at hx; omega) (by omega)
  have h := unit_norm _ _ _ _ _ _ _ _ _ _ rfl (by omega) (by omega) hL1 M0 M1 M2 M3 (o a0 G0) (o a1 G1) (o a2 G2) (o a3 G3)
  have := sqP_4 (oneP [a0, a1, a2, a3] a0) (oneP [a0, a1, a2, a3] a1) (oneP [a0, a1, a2, a3] a2) (oneP [a0, a1, a2, a3] a3)
  omega

theorem root_is (n x : Int) (h0 : 0 ≤ n) (hx : 0 ≤ x) (h1 : x * x ≤ n) (h2 : ¬ (x + 1) * (x + 1) ≤ n) : rootP n = x := by
  have a := (sq_iff n x h0 hx).1 h1
  have b := mt (sq_iff n (x + 1) h0 (by omega)).2 h2
  omega
end Go.Proofs.YtgmepohfkpncmaaGreat
