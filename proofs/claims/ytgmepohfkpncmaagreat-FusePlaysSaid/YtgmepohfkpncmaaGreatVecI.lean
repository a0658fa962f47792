/- Chapter 09: a vector's direction. -/
import Derived.Test.YtgmepohfkpncmaaGreatVecG
import Derived.Test.YtgmepohfkpncmaaGreatUnitF
namespace Go.Proofs.YtgmepohfkpncmaaGreat
open Go.RowKit
set_option linter.unusedVariables false
set_option linter.unusedSimpArgs false

def Makes3 (a0 a1 a2 : Int) (w : World) (e : Ending) (w' : World) : Prop :=
 e = .returned (.tuple #[.agg #[.int .i32 (makeP [a0, a1, a2] a0), .int .i32 (makeP [a0, a1, a2] a1), .int .i32 (makeP [a0, a1, a2] a2)], .bool (decide (0 < farP [a0, a1, a2]))]) ∧ Below w.heap.size w w'
theorem far3_zero (a0 a1 a2 : Int) (h0 : I32 a0) (h1 : I32 a1) (h2 : I32 a2) : farP [a0, a1, a2] = 0 ∨ 0 < farP [a0, a1, a2] := by
 have := (farP_facts [a0, a1, a2] (by simp; unfold I32 at *; omega)).1
 omega
theorem far3_zero' (a0 a1 a2 : Int) (h0 : I32 a0) (h1 : I32 a1) (h2 : I32 a2) (h : farP [a0, a1, a2] = 0) : a0 = 0 ∧ a1 = 0 ∧ a2 = 0 := by
 obtain ⟨_, _, f, _⟩ := farP_facts [a0, a1, a2] (by simp; unfold I32 at *; omega)
 rw [h] at f
 simp at f
 omega
theorem far3_pos' (a0 a1 a2 : Int) (h : 0 < farP [a0, a1, a2]) : ¬ (a0 = 0 ∧ a1 = 0 ∧ a2 = 0) := by
 rintro ⟨rfl, rfl, rfl⟩
 simp [farP] at h
/-- The parts, grown, and what becomes of them. -/
theorem unit3_facts (a0 a1 a2 : Int) (ia0 : I32 a0) (ia1 : I32 a1) (ia2 : I32 a2) (hz : 0 < farP [a0, a1, a2]) (g0 g1 g2 : Int) (e0 : g0 = a0 * 2 ^ upN [a0, a1, a2]) (e1 : g1 = a1 * 2 ^ upN [a0, a1, a2]) (e2 : g2 = a2 * 2 ^ upN [a0, a1, a2]) :
  I32 g0 ∧ I32 g1 ∧ I32 g2 ∧ 1073741824 ≤ rootP (sqP [g0, g1, g2]) ∧ rootP (sqP [g0, g1, g2]) ≤ 4294967295 ∧
  (-1073741824 ≤ overP (1073741824 * g0) (rootP (sqP [g0, g1, g2])) ∧ overP (1073741824 * g0) (rootP (sqP [g0, g1, g2])) ≤ 1073741824) ∧ (-1073741824 ≤ overP (1073741824 * g1) (rootP (sqP [g0, g1, g2])) ∧ overP (1073741824 * g1) (rootP (sqP [g0, g1, g2])) ≤ 1073741824) ∧ (-1073741824 ≤ overP (1073741824 * g2) (rootP (sqP [g0, g1, g2])) ∧ overP (1073741824 * g2) (rootP (sqP [g0, g1, g2])) ≤ 1073741824) ∧
  makeP [a0, a1, a2] a0 = overP (1073741824 * g0) (rootP (sqP [g0, g1, g2])) ∧ makeP [a0, a1, a2] a1 = overP (1073741824 * g1) (rootP (sqP [g0, g1, g2])) ∧ makeP [a0, a1, a2] a2 = overP (1073741824 * g2) (rootP (sqP [g0, g1, g2])) := by
 obtain ⟨n30, hG, hL1, hL2, hL3⟩ := up_facts [a0, a1, a2] (by unfold I32 at *; simp; omega) hz
 simp only [List.mem_cons, List.not_mem_nil, or_false, forall_eq_or_imp, forall_eq] at hG hL3
 have hu : upL [a0, a1, a2] = [g0, g1, g2] := by rw [e0, e1, e2]; rfl
 have hl : lenP [a0, a1, a2] = rootP (sqP [g0, g1, g2]) := by unfold lenP; rw [hu]
 rw [← e0, ← e1, ← e2] at hG hL3
 rw [hl] at hL1 hL2 hL3
 have hz' : ¬ farP [a0, a1, a2] = 0 := by omega
 unfold makeP oneP
 rw [if_neg hz', if_neg hz', if_neg hz', hl, ← e0, ← e1, ← e2]
 simp only [Int.mul_comm 1073741824]
 generalize rootP (sqP [g0, g1, g2]) = L at *
 exact ⟨hG.1, hG.2.1, hG.2.2, hL1, hL2, over_one g0 L ⟨by omega, hL2⟩ hL3.1 hG.1, over_one g1 L ⟨by omega, hL2⟩ hL3.2.1 hG.2.1, over_one g2 L ⟨by omega, hL2⟩ hL3.2.2 hG.2.2, by trivial, by trivial, by trivial⟩

set_option maxHeartbeats 16000000 in
theorem v_Unit (a0 a1 a2 : Int) (w : World) (ia0 : I32 a0) (ia1 : I32 a1) (ia2 : I32 a2) :
  Calls Tryz.prog 18 #[.agg #[.int .i32 a0, .int .i32 a1, .int .i32 a2]] w (Makes3 a0 a1 a2 w) := by
 rcases far3_zero a0 a1 a2 ia0 ia1 ia2 with hz | hz
 ·obtain ⟨rfl, rfl, rfl⟩ := far3_zero' a0 a1 a2 ia0 ia1 ia2 hz
  have HM : Hid (Ending.returned (.tuple #[.agg #[.int .i32 0, .int .i32 0, .int .i32 0], .bool false]) = .returned (.tuple #[.agg #[.int .i32 (makeP [0, 0, 0] 0), .int .i32 (makeP [0, 0, 0] 0), .int .i32 (makeP [0, 0, 0] 0)], .bool (decide (0 < farP [0, 0, 0]))])) := by unfold makeP; rw [hz]; rfl
  clear hz ia0 ia1 ia2
  go_enter Tryz.func18, Tryz.ntmps18
  go_wp2
  simp [bodyPost, results, Tryz.results18, go_sem]
  exact ⟨HM.out, ((Below.refl _ w).alloc (Nat.le_refl _) _).alloc (by simp) _⟩
 ·have hn := far3_pos' a0 a1 a2 hz
  go_enter Tryz.func18, Tryz.ntmps18
  go_upto_region 1 with fail
  have hp : Blk ((w.alloc (.cells #[.int .i32 a0, .int .i32 a1, .int .i32 a2] 25)).alloc (.cells #[.int .i32 0, .int .i32 0, .int .i32 0] 25)) w.heap.size 25 #[.int .i32 a0, .int .i32 a1, .int .i32 a2] := (Blk.new w _ _).alloc _
  have hr : Blk ((w.alloc (.cells #[.int .i32 a0, .int .i32 a1, .int .i32 a2] 25)).alloc (.cells #[.int .i32 0, .int .i32 0, .int .i32 0] 25)) (w.heap.size + 1) 25 #[.int .i32 0, .int .i32 0, .int .i32 0] := by have := Blk.new (w.alloc (.cells #[.int .i32 a0, .int .i32 a1, .int .i32 a2] 25)) 25 #[.int .i32 0, .int .i32 0, .int .i32 0]; simpa using this
  have hb : Below w.heap.size w ((w.alloc (.cells #[.int .i32 a0, .int .i32 a1, .int .i32 a2] 25)).alloc (.cells #[.int .i32 0, .int .i32 0, .int .i32 0] 25)) := ((Below.refl _ w).alloc (Nat.le_refl _) _).alloc (by simp) _
  generalize (w.alloc (.cells #[.int .i32 a0, .int .i32 a1, .int .i32 a2] 25)).alloc (.cells #[.int .i32 0, .int .i32 0, .int .i32 0] 25) = W0 at *
  go_cut [10] from 8 to 9 (fun x wx => x = .bool false ∧ wx = W0)
  case first =>
   have f0 : W0.cell? ⟨w.heap.size, 0, none⟩ = some (.int .i32 a0) := hp.cell 0
   have f1 : W0.cell? ⟨w.heap.size, 1, none⟩ = some (.int .i32 a1) := hp.cell 1
   have f2 : W0.cell? ⟨w.heap.size, 2, none⟩ = some (.int .i32 a2) := hp.cell 2
   go_wp2
   all_goals (try subst_vars)
   all_goals (go_meet)
   all_goals (exact ⟨rfl, rfl⟩)
  case rest =>
   obtain ⟨rfl, rfl⟩ := hcut
   clear hn
   have f0 : wc.cell? ⟨w.heap.size, 0, none⟩ = some (.int .i32 a0) := hp.cell 0
   have f1 : wc.cell? ⟨w.heap.size, 1, none⟩ = some (.int .i32 a1) := hp.cell 1
   have f2 : wc.cell? ⟨w.heap.size, 2, none⟩ = some (.int .i32 a2) := hp.cell 2
   have hmf : ∀ (fn : Fn) (first cap : Array Value) (w : World), (Instr.makeFunc fn first cap).run Tryz.prog w = .ok (.func fn first cap) w := fun _ _ _ _ => rfl
   have HP := hid fun w => v_parts a0 a1 a2 w
   have hd := fun w => v_doubled a0 a1 a2 w ia0 ia1 ia2 hz
   unfold Doubles at hd
   have hu := unit3_facts a0 a1 a2 ia0 ia1 ia2 hz _ _ _ rfl rfl rfl
   generalize a0 * 2 ^ upN [a0, a1, a2] = g0 at *
   generalize a1 * 2 ^ upN [a0, a1, a2] = g1 at *
   generalize a2 * 2 ^ upN [a0, a1, a2] = g2 at *
   obtain ⟨ig0, ig1, ig2, L1, L2, o0, o1, o2, k0, k1, k2⟩ := hu
   have HD := hid hd
   clear hd
   have HL := hid fun (g : Nat) w h => root_Length (some ⟨g, 0, none⟩) 3 3 [g0, g1, g2] w h (by unfold I32 at *; simp; omega) (by omega)
   generalize rootP (sqP [g0, g1, g2]) = L at *
   have HK := hid (And.intro k0 (And.intro k1 k2))
   clear k0 k1 k2
   go_wp2_with fail
   refine (HP.out _).mono ?_
   rintro e w1 ⟨rfl, b1⟩
   replace hr := hr.below b1 hr.lt
   replace hb := hb.on b1
   clear f0 f1 f2 hp b1
   go_wp2_with fail
   refine (HD.out _).mono ?_
   rintro e w2 ⟨rfl, b2⟩
   replace hr := (hr.below b2 hr.lt).alloc (.cells #[.int .i32 g0, .int .i32 g1, .int .i32 g2] 69)
   replace hb := (hb.on b2).alloc (hb.on b2).size (.cells #[.int .i32 g0, .int .i32 g1, .int .i32 g2] 69)
   have hG := Blk.new w2 69 #[.int .i32 g0, .int .i32 g1, .int .i32 g2]
   clear b2
   go_wp2_with fail
   generalize w2.alloc (.cells #[.int .i32 g0, .int .i32 g1, .int .i32 g2] 69) = w3 at *
   generalize w2.heap.size = gG at *
   refine (HL.out _ _ (Row.blk hG rfl hG.lt)).mono ?_
   rintro e w' ⟨rfl, rfl⟩
   have uL : IntKind.i64.wrap L = L := IntWalk.i64_in _ (by omega)
   have hl := Blk.new w3 2 #[.int .i64 L]
   replace hr := hr.alloc (.cells #[.int .i64 L] 2)
   replace hG := hG.alloc (.cells #[.int .i64 L] 2)
   replace hb := hb.alloc hb.size (.cells #[.int .i64 L] 2)
   generalize hw4 : w3.alloc (.cells #[.int .i64 L] 2) = w4 at *
   generalize hgl : w3.heap.size = gL at *
   have HE := v_each_Unit (.pointer (some ⟨gG, 0, none⟩)) (.pointer (some ⟨gL, 0, none⟩)) (overP (1073741824 * g0) L) (overP (1073741824 * g1) L) (overP (1073741824 * g2) L) w4 (by unfold I64; omega) (by unfold I64; omega) (by unfold I64; omega) (by
    intro i V hi w' hw
    rcases hi with ⟨rfl, rfl⟩ | ⟨rfl, rfl⟩ | ⟨rfl, rfl⟩
    ·exact c_Unit0 gG gL g0 g1 g2 L w' ig0 ig1 ig2 (by unfold I64; omega) (hG.below hw hG.lt) (hl.below hw hl.lt)
    ·exact c_Unit1 gG gL g0 g1 g2 L w' ig0 ig1 ig2 (by unfold I64; omega) (hG.below hw hG.lt) (hl.below hw hl.lt)
    ·exact c_Unit2 gG gL g0 g1 g2 L w' ig0 ig1 ig2 (by unfold I64; omega) (hG.below hw hG.lt) (hl.below hw hl.lt))
   rw [clampP_in _ (show I32 _ by unfold I32; omega), clampP_in _ (show I32 _ by unfold I32; omega), clampP_in _ (show I32 _ by unfold I32; omega)] at HE
   generalize cutC (overP (1073741824 * g0) L) + cutC (overP (1073741824 * g1) L) + cutC (overP (1073741824 * g2) L) = N at *
   generalize overP (1073741824 * g0) L = y0 at *
   generalize overP (1073741824 * g1) L = y1 at *
   generalize overP (1073741824 * g2) L = y2 at *
   have HE2 := hid HE
   clear HE o0 o1 o2
   go_wp2_with fail
   refine (HE2.out).mono ?_
   rintro e w5 ⟨rfl, b5⟩
   replace hr := (hr.below b5 hr.lt).alloc (.cells #[.int .i32 y0, .int .i32 y1, .int .i32 y2] 25)
   replace hb := (hb.on b5).alloc (hb.on b5).size (.cells #[.int .i32 y0, .int .i32 y1, .int .i32 y2] 25)
   have hY := Blk.new w5 25 #[.int .i32 y0, .int .i32 y1, .int .i32 y2]
   have c0 : (w5.alloc (.cells #[.int .i32 y0, .int .i32 y1, .int .i32 y2] 25)).cell? ⟨w5.heap.size, 0, none⟩ = some (.int .i32 y0) := hY.cell 0
   have d0 : (w5.alloc (.cells #[.int .i32 y0, .int .i32 y1, .int .i32 y2] 25)).cell? ⟨w.heap.size + 1, 0, none⟩ = some (.int .i32 0) := hr.cell 0
   have z0 := hr.frozen 0
   have c1 : (w5.alloc (.cells #[.int .i32 y0, .int .i32 y1, .int .i32 y2] 25)).cell? ⟨w5.heap.size, 1, none⟩ = some (.int .i32 y1) := hY.cell 1
   have d1 : (w5.alloc (.cells #[.int .i32 y0, .int .i32 y1, .int .i32 y2] 25)).cell? ⟨w.heap.size + 1, 1, none⟩ = some (.int .i32 0) := hr.cell 1
   have z1 := hr.frozen 1
   have c2 : (w5.alloc (.cells #[.int .i32 y0, .int .i32 y1, .int .i32 y2] 25)).cell? ⟨w5.heap.size, 2, none⟩ = some (.int .i32 y2) := hY.cell 2
   have d2 : (w5.alloc (.cells #[.int .i32 y0, .int .i32 y1, .int .i32 y2] 25)).cell? ⟨w.heap.size + 1, 2, none⟩ = some (.int .i32 0) := hr.cell 2
   have z2 := hr.frozen 2
   have hf : Blk ((((w5.alloc (.cells #[.int .i32 y0, .int .i32 y1, .int .i32 y2] 25)).setCell ⟨w.heap.size + 1, 0, none⟩ (.int .i32 y0)).setCell ⟨w.heap.size + 1, 1, none⟩ (.int .i32 y1)).setCell ⟨w.heap.size + 1, 2, none⟩ (.int .i32 y2)) (w.heap.size + 1) 25 #[.int .i32 y0, .int .i32 y1, .int .i32 y2] := (((hr.set_ 0 (.int .i32 y0)).set_ 1 (.int .i32 y1)).set_ 2 (.int .i32 y2))
   have hbf : Below w.heap.size w ((((w5.alloc (.cells #[.int .i32 y0, .int .i32 y1, .int .i32 y2] 25)).setCell ⟨w.heap.size + 1, 0, none⟩ (.int .i32 y0)).setCell ⟨w.heap.size + 1, 1, none⟩ (.int .i32 y1)).setCell ⟨w.heap.size + 1, 2, none⟩ (.int .i32 y2)) := (((hb.sc (w.heap.size + 1) 0 (by omega) (.int .i32 y0)).sc (w.heap.size + 1) 1 (by omega) (.int .i32 y1)).sc (w.heap.size + 1) 2 (by omega) (.int .i32 y2))
   have HF : Hid (Makes3 a0 a1 a2 w (.returned (.tuple #[.agg #[.int .i32 y0, .int .i32 y1, .int .i32 y2], .bool true])) ((((w5.alloc (.cells #[.int .i32 y0, .int .i32 y1, .int .i32 y2] 25)).setCell ⟨w.heap.size + 1, 0, none⟩ (.int .i32 y0)).setCell ⟨w.heap.size + 1, 1, none⟩ (.int .i32 y1)).setCell ⟨w.heap.size + 1, 2, none⟩ (.int .i32 y2))) := by
    unfold Makes3
    rw [HK.out.1, HK.out.2.1, HK.out.2.2, decide_eq_true hz]
    exact ⟨rfl, hbf⟩
   go_wp2
   generalize ((((w5.alloc (.cells #[.int .i32 y0, .int .i32 y1, .int .i32 y2] 25)).setCell ⟨w.heap.size + 1, 0, none⟩ (.int .i32 y0)).setCell ⟨w.heap.size + 1, 1, none⟩ (.int .i32 y1)).setCell ⟨w.heap.size + 1, 2, none⟩ (.int .i32 y2)) = wf at *
   have f0 : wf.cell? ⟨w.heap.size + 1, 0, none⟩ = some (.int .i32 y0) := hf.cell 0
   have f1 : wf.cell? ⟨w.heap.size + 1, 1, none⟩ = some (.int .i32 y1) := hf.cell 1
   have f2 : wf.cell? ⟨w.heap.size + 1, 2, none⟩ = some (.int .i32 y2) := hf.cell 2
   simp [bodyPost, results, Tryz.results18, go_sem, f0, f1, f2]
   exact HF.out
end Go.Proofs.YtgmepohfkpncmaaGreat
namespace Go.Proofs.YtgmepohfkpncmaaGreat
open Go.RowKit
set_option linter.unusedVariables false
set_option linter.unusedSimpArgs false

theorem r9_far (x : Int) (w : World) :
  Calls Tryz.prog 51 #[.int .i32 x] w fun e w' => e = .returned (.bool (farB x)) ∧ w = w' := by
 by_cases g : 1073741824 ≤ x
 ·have d1 : decide (1073741824 ≤ x) = true := by simpa using g
  have HB : Hid (farB x = true) := hid (by unfold farB; rw [d1]; rfl)
  clear g
  go_enter Tryz.func51, Tryz.ntmps51
  go_wp2
  go_ret
  exact ⟨by rw [HB.out]; rfl, rfl⟩
 ·have d1 : decide (1073741824 ≤ x) = false := by simpa using g
  have HB : Hid (farB x = decide (x ≤ -1073741824)) := hid (by unfold farB; rw [d1]; rfl)
  clear g
  go_enter Tryz.func51, Tryz.ntmps51
  go_wp2
  go_ret
  exact ⟨by rw [HB.out]; rfl, rfl⟩
/-- How much three cells may still grow. -/
def left3 (g : Nat) (w : World) : Nat := (6442450944 - (absP (intAt (w.cell? ⟨g, 0, none⟩)) + absP (intAt (w.cell? ⟨g, 1, none⟩)) + absP (intAt (w.cell? ⟨g, 2, none⟩)))).toNat
theorem left3_is {g : Nat} {w : World} {t : TypeId} {l0 l1 l2 : Int} (h : Blk w g t #[.int .i32 l0, .int .i32 l1, .int .i32 l2]) : left3 g w = (6442450944 - (absP l0 + absP l1 + absP l2)).toNat := by
 have e0 : w.cell? ⟨g, 0, none⟩ = some (.int .i32 l0) := h.cell 0
 have e1 : w.cell? ⟨g, 1, none⟩ = some (.int .i32 l1) := h.cell 1
 have e2 : w.cell? ⟨g, 2, none⟩ = some (.int .i32 l2) := h.cell 2
 unfold left3
 rw [e0, e1, e2]; rfl
theorem grow_key3 (a0 a1 a2 : Int) (ia0 : I32 a0) (ia1 : I32 a1) (ia2 : I32 a2) (hz : 0 < farP [a0, a1, a2]) (k : Nat) (hk : k ≤ shN (farP [a0, a1, a2])) :
  ((farB (a0 * 2 ^ k) = false ∧ farB (a1 * 2 ^ k) = false ∧ farB (a2 * 2 ^ k) = false) ∧ k < shN (farP [a0, a1, a2]) ∧ ¬ (a0 * 2 ^ k = 0 ∧ a1 * 2 ^ k = 0 ∧ a2 * 2 ^ k = 0)) ∨
  (¬ (farB (a0 * 2 ^ k) = false ∧ farB (a1 * 2 ^ k) = false ∧ farB (a2 * 2 ^ k) = false) ∧ k = shN (farP [a0, a1, a2])) := by
 obtain ⟨f0, f1, f2, f3⟩ := farP_facts [a0, a1, a2] (by unfold I32 at *; simp; omega)
 obtain ⟨s1, s2, s3⟩ := shN_facts _ hz
 have hn := far3_pos' a0 a1 a2 hz
 simp only [farB_no]
 by_cases g : k < shN (farP [a0, a1, a2])
 ·left
  have h := s3 k g
  have q0 := mul_pow_bd a0 _ k (f2 a0 (by simp))
  have q1 := mul_pow_bd a1 _ k (f2 a1 (by simp))
  have q2 := mul_pow_bd a2 _ k (f2 a2 (by simp))
  refine ⟨by omega, g, ?_⟩
  have hp : (2 : Int) ^ k ≠ 0 := Int.ne_of_gt (Int.pow_pos (by omega))
  simp only [Int.mul_eq_zero, hp, or_false]
  exact hn
 ·right
  obtain rfl : k = shN (farP [a0, a1, a2]) := by omega
  refine ⟨?_, rfl⟩
  rcases f3 with f3 | ⟨x, hx', f3⟩
  ·omega
  ·have e : farP [a0, a1, a2] * 2 ^ shN (farP [a0, a1, a2]) = x * 2 ^ shN (farP [a0, a1, a2]) ∨ farP [a0, a1, a2] * 2 ^ shN (farP [a0, a1, a2]) = -(x * 2 ^ shN (farP [a0, a1, a2])) := by
    rcases f3 with h | h
    ·left; conv => lhs; lhs; rw [h]
    ·right; conv => lhs; lhs; rw [h]
     rw [Int.neg_mul]
   simp only [List.mem_cons, List.not_mem_nil, or_false] at hx'
   generalize farP [a0, a1, a2] * 2 ^ shN (farP [a0, a1, a2]) = M at *
   rcases hx' with rfl | rfl | rfl <;> omega

set_option maxHeartbeats 16000000 in
theorem r9_Unit (a0 a1 a2 : Int) (w : World) (ia0 : I32 a0) (ia1 : I32 a1) (ia2 : I32 a2) :
  Calls Tryz.prog 22 #[.agg #[.int .i32 a0, .int .i32 a1, .int .i32 a2]] w (Makes3 a0 a1 a2 w) := by
 rcases far3_zero a0 a1 a2 ia0 ia1 ia2 with hz | hz
 ·obtain ⟨rfl, rfl, rfl⟩ := far3_zero' a0 a1 a2 ia0 ia1 ia2 hz
  have HM : Hid (Ending.returned (.tuple #[.agg #[.int .i32 0, .int .i32 0, .int .i32 0], .bool false]) = .returned (.tuple #[.agg #[.int .i32 (makeP [0, 0, 0] 0), .int .i32 (makeP [0, 0, 0] 0), .int .i32 (makeP [0, 0, 0] 0)], .bool (decide (0 < farP [0, 0, 0]))])) := by unfold makeP; rw [hz]; rfl
  clear hz ia0 ia1 ia2
  go_enter Tryz.func22, Tryz.ntmps22
  go_wp2
  simp [bodyPost, results, Tryz.results22, go_sem]
  exact ⟨HM.out, ((Below.refl _ w).alloc (Nat.le_refl _) _).alloc (by simp) _⟩
 ·have hn := far3_pos' a0 a1 a2 hz
  go_enter Tryz.func22, Tryz.ntmps22
  go_upto_region 1 with fail
  have hp : Blk ((w.alloc (.cells #[.int .i32 a0, .int .i32 a1, .int .i32 a2] 25)).alloc (.cells #[.int .i32 0, .int .i32 0, .int .i32 0] 25)) w.heap.size 25 #[.int .i32 a0, .int .i32 a1, .int .i32 a2] := (Blk.new w _ _).alloc _
  have hr : Blk ((w.alloc (.cells #[.int .i32 a0, .int .i32 a1, .int .i32 a2] 25)).alloc (.cells #[.int .i32 0, .int .i32 0, .int .i32 0] 25)) (w.heap.size + 1) 25 #[.int .i32 0, .int .i32 0, .int .i32 0] := by have := Blk.new (w.alloc (.cells #[.int .i32 a0, .int .i32 a1, .int .i32 a2] 25)) 25 #[.int .i32 0, .int .i32 0, .int .i32 0]; simpa using this
  have hb : Below w.heap.size w ((w.alloc (.cells #[.int .i32 a0, .int .i32 a1, .int .i32 a2] 25)).alloc (.cells #[.int .i32 0, .int .i32 0, .int .i32 0] 25)) := ((Below.refl _ w).alloc (Nat.le_refl _) _).alloc (by simp) _
  generalize (w.alloc (.cells #[.int .i32 a0, .int .i32 a1, .int .i32 a2] 25)).alloc (.cells #[.int .i32 0, .int .i32 0, .int .i32 0] 25) = W0 at *
  go_cut [10] from 8 to 9 (fun x wx => x = .bool false ∧ wx = W0)
  case first =>
   have f0 : W0.cell? ⟨w.heap.size, 0, none⟩ = some (.int .i32 a0) := hp.cell 0
   have f1 : W0.cell? ⟨w.heap.size, 1, none⟩ = some (.int .i32 a1) := hp.cell 1
   have f2 : W0.cell? ⟨w.heap.size, 2, none⟩ = some (.int .i32 a2) := hp.cell 2
   go_wp2
   all_goals (try subst_vars)
   all_goals (go_meet)
   all_goals (exact ⟨rfl, rfl⟩)
  case rest =>
   obtain ⟨rfl, rfl⟩ := hcut
   clear hn
   have f0 : wc.cell? ⟨w.heap.size, 0, none⟩ = some (.int .i32 a0) := hp.cell 0
   have f1 : wc.cell? ⟨w.heap.size, 1, none⟩ = some (.int .i32 a1) := hp.cell 1
   have f2 : wc.cell? ⟨w.heap.size, 2, none⟩ = some (.int .i32 a2) := hp.cell 2
   clear f0 f1 f2
   have hu := unit3_facts a0 a1 a2 ia0 ia1 ia2 hz _ _ _ rfl rfl rfl
   have HU := hid hu
   clear hu
   have HK := hid fun k => grow_key3 a0 a1 a2 ia0 ia1 ia2 hz k
   unfold upN at HU
   generalize hN : shN (farP [a0, a1, a2]) = N at *
   clear hN
   go_wp2
   go_loopw [28] (fun s wr => ∃ (k : Nat) (l0 l1 l2 : Int), k ≤ N ∧ Hid (l0 = a0 * 2 ^ k ∧ l1 = a1 * 2 ^ k ∧ l2 = a2 * 2 ^ k) ∧ Blk wr w.heap.size 25 #[.int .i32 l0, .int .i32 l1, .int .i32 l2] ∧ Blk wr (w.heap.size + 1) 25 #[.int .i32 0, .int .i32 0, .int .i32 0] ∧ Below w.heap.size w wr) (fun _ wr => left3 w.heap.size wr)
   case atStart => exact ⟨0, a0, a1, a2, by omega, ⟨by simp, by simp, by simp⟩, hp, hr, hb⟩
   case round =>
    clear hp hr hb
    obtain ⟨k, l0, l1, l2, hk, hl, hp, hr, hb⟩ := hrel
    have key := HK.out k hk
    have hl' := hl.out
    rw [← hl'.1, ← hl'.2.1, ← hl'.2.2] at key
    clear hl'
    have HF0 := hid fun w => r9_far l0 w
    have n0 := farB_no l0
    have HF1 := hid fun w => r9_far l1 w
    have n1 := farB_no l1
    have HF2 := hid fun w => r9_far l2 w
    have n2 := farB_no l2
    generalize farB l0 = B0 at *
    generalize farB l1 = B1 at *
    generalize farB l2 = B2 at *
    have c0 : wr.cell? ⟨w.heap.size, 0, none⟩ = some (.int .i32 l0) := hp.cell 0
    have c1 : wr.cell? ⟨w.heap.size, 1, none⟩ = some (.int .i32 l1) := hp.cell 1
    have c2 : wr.cell? ⟨w.heap.size, 2, none⟩ = some (.int .i32 l2) := hp.cell 2
    have ml := left3_is hp
    have ML := hid ml
    clear ml
    go_upto_region 3 with fail
    go_cut [27] from 12 to 26 (fun x wx => x = .bool (!B0 && !B1 && !B2) ∧ wx = wr)
    case first =>
     clear key n0 n1 n2 hl
     cases B0
     ·cases B1
      ·cases B2
       ·go_wp2_with fail
        refine (HF0.out _).mono ?_
        rintro e w' ⟨rfl, rfl⟩
        go_wp2_with fail
        refine (HF1.out _).mono ?_
        rintro e w' ⟨rfl, rfl⟩
        go_wp2_with fail
        refine (HF2.out _).mono ?_
        rintro e w' ⟨rfl, rfl⟩
        go_wp2
        go_meet
        exact ⟨rfl, rfl⟩
       ·go_wp2_with fail
        refine (HF0.out _).mono ?_
        rintro e w' ⟨rfl, rfl⟩
        go_wp2_with fail
        refine (HF1.out _).mono ?_
        rintro e w' ⟨rfl, rfl⟩
        go_wp2_with fail
        refine (HF2.out _).mono ?_
        rintro e w' ⟨rfl, rfl⟩
        go_wp2
        go_meet
        exact ⟨rfl, rfl⟩
      ·go_wp2_with fail
       refine (HF0.out _).mono ?_
       rintro e w' ⟨rfl, rfl⟩
       go_wp2_with fail
       refine (HF1.out _).mono ?_
       rintro e w' ⟨rfl, rfl⟩
       go_wp2
       go_meet
       exact ⟨rfl, rfl⟩
     ·go_wp2_with fail
      refine (HF0.out _).mono ?_
      rintro e w' ⟨rfl, rfl⟩
      go_wp2
      go_meet
      exact ⟨rfl, rfl⟩
    case rest =>
     obtain ⟨rfl, rfl⟩ := hcut
     rcases key with ⟨⟨rfl, rfl, rfl⟩, kN, hnz⟩ | ⟨hB, hkN⟩
     ·replace n0 := n0.1 rfl
      replace n1 := n1.1 rfl
      replace n2 := n2.1 rfl
      have u0 : IntKind.i32.wrap (2 * l0) = 2 * l0 := IntWalk.i32_in _ (by omega)
      have z0 := hp.frozen 0
      have u1 : IntKind.i32.wrap (2 * l1) = 2 * l1 := IntWalk.i32_in _ (by omega)
      have z1 := hp.frozen 1
      have u2 : IntKind.i32.wrap (2 * l2) = 2 * l2 := IntWalk.i32_in _ (by omega)
      have z2 := hp.frozen 2
      have hp2 : Blk (((wc.setCell ⟨w.heap.size, 0, none⟩ (.int .i32 (2 * l0))).setCell ⟨w.heap.size, 1, none⟩ (.int .i32 (2 * l1))).setCell ⟨w.heap.size, 2, none⟩ (.int .i32 (2 * l2))) w.heap.size 25 #[.int .i32 (2 * l0), .int .i32 (2 * l1), .int .i32 (2 * l2)] := (((hp.set_ 0 (.int .i32 (2 * l0))).set_ 1 (.int .i32 (2 * l1))).set_ 2 (.int .i32 (2 * l2)))
      have hr2 : Blk (((wc.setCell ⟨w.heap.size, 0, none⟩ (.int .i32 (2 * l0))).setCell ⟨w.heap.size, 1, none⟩ (.int .i32 (2 * l1))).setCell ⟨w.heap.size, 2, none⟩ (.int .i32 (2 * l2))) (w.heap.size + 1) 25 #[.int .i32 0, .int .i32 0, .int .i32 0] := (((hr.fr (w.heap.size) 0 (by omega) (.int .i32 (2 * l0))).fr (w.heap.size) 1 (by omega) (.int .i32 (2 * l1))).fr (w.heap.size) 2 (by omega) (.int .i32 (2 * l2)))
      have hb2 : Below w.heap.size w (((wc.setCell ⟨w.heap.size, 0, none⟩ (.int .i32 (2 * l0))).setCell ⟨w.heap.size, 1, none⟩ (.int .i32 (2 * l1))).setCell ⟨w.heap.size, 2, none⟩ (.int .i32 (2 * l2))) := (((hb.sc (w.heap.size) 0 (by omega) (.int .i32 (2 * l0))).sc (w.heap.size) 1 (by omega) (.int .i32 (2 * l1))).sc (w.heap.size) 2 (by omega) (.int .i32 (2 * l2)))
      have mx := left3_is hp2
      have MX : left3 w.heap.size (((wc.setCell ⟨w.heap.size, 0, none⟩ (.int .i32 (2 * l0))).setCell ⟨w.heap.size, 1, none⟩ (.int .i32 (2 * l1))).setCell ⟨w.heap.size, 2, none⟩ (.int .i32 (2 * l2))) < left3 w.heap.size wc := by
       rw [mx, ML.out]
       clear mx
       unfold absP
       omega
      have HL2 : Hid (2 * l0 = a0 * 2 ^ (k + 1) ∧ 2 * l1 = a1 * 2 ^ (k + 1) ∧ 2 * l2 = a2 * 2 ^ (k + 1)) := hid (by
       obtain ⟨e0, e1, e2⟩ := hl.out
       rw [e0, e1, e2]
       simp only [pow_s, Int.mul_assoc, and_self])
      clear mx hl
      go_wp2
      go_round
      case rel => exact ⟨k + 1, 2 * l0, 2 * l1, 2 * l2, by omega, HL2, hp2, hr2, hb2⟩
      case measure => exact MX
     ·obtain rfl := hkN.symm
      have hq : (!B0 && !B1 && !B2) = false := by revert hB; cases B0 <;> cases B1 <;> cases B2 <;> simp
      clear hB n0 n1 n2 HF0 HF1 HF2 ML HK
      have hu := HU.out
      rw [← hl.out.1, ← hl.out.2.1, ← hl.out.2.2] at hu
      clear hl HU
      obtain ⟨ig0, ig1, ig2, L1, L2, o0, o1, o2, k0, k1, k2⟩ := hu
      have HL := hid fun w => r9_Length l0 l1 l2 w ig0 ig1 ig2
      generalize rootP (sqP [l0, l1, l2]) = L at *
      have HY := hid (And.intro k0 (And.intro k1 k2))
      clear k0 k1 k2
      have HO0 := hid fun w => fxr_Over (1073741824 * l0) L w (by unfold I32 I64 at *; omega) (by unfold I64; omega)
      have m0 : IntKind.i64.wrap (1073741824 * l0) = 1073741824 * l0 := IntWalk.i64_in _ (by unfold I32 at *; omega)
      have s0 : IntKind.i64.wrap l0 = l0 := IntWalk.i64_in _ (by unfold I32 at *; omega)
      have x0 : IntKind.i32.wrap (overP (1073741824 * l0) L) = overP (1073741824 * l0) L := IntWalk.i32_in _ (by omega)
      have HO1 := hid fun w => fxr_Over (1073741824 * l1) L w (by unfold I32 I64 at *; omega) (by unfold I64; omega)
      have m1 : IntKind.i64.wrap (1073741824 * l1) = 1073741824 * l1 := IntWalk.i64_in _ (by unfold I32 at *; omega)
      have s1 : IntKind.i64.wrap l1 = l1 := IntWalk.i64_in _ (by unfold I32 at *; omega)
      have x1 : IntKind.i32.wrap (overP (1073741824 * l1) L) = overP (1073741824 * l1) L := IntWalk.i32_in _ (by omega)
      have HO2 := hid fun w => fxr_Over (1073741824 * l2) L w (by unfold I32 I64 at *; omega) (by unfold I64; omega)
      have m2 : IntKind.i64.wrap (1073741824 * l2) = 1073741824 * l2 := IntWalk.i64_in _ (by unfold I32 at *; omega)
      have s2 : IntKind.i64.wrap l2 = l2 := IntWalk.i64_in _ (by unfold I32 at *; omega)
      have x2 : IntKind.i32.wrap (overP (1073741824 * l2) L) = overP (1073741824 * l2) L := IntWalk.i32_in _ (by omega)
      have uL : IntKind.i64.wrap L = L := IntWalk.i64_in _ (by omega)
      generalize overP (1073741824 * l0) L = y0 at *
      generalize overP (1073741824 * l1) L = y1 at *
      generalize overP (1073741824 * l2) L = y2 at *
      clear o0 o1 o2
      rw [hq]
      clear hq
      go_wp2_with fail
      refine (HL.out _).mono ?_
      rintro e w5 ⟨rfl, b5⟩
      replace hp := hp.below b5 hp.lt
      replace hr := hr.below b5 hr.lt
      replace hb := hb.on b5
      clear b5 c0 c1 c2
      have c0 : w5.cell? ⟨w.heap.size, 0, none⟩ = some (.int .i32 l0) := hp.cell 0
      have d0 : w5.cell? ⟨w.heap.size + 1, 0, none⟩ = some (.int .i32 0) := hr.cell 0
      have z0 := hr.frozen 0
      have c1 : w5.cell? ⟨w.heap.size, 1, none⟩ = some (.int .i32 l1) := hp.cell 1
      have d1 : w5.cell? ⟨w.heap.size + 1, 1, none⟩ = some (.int .i32 0) := hr.cell 1
      have z1 := hr.frozen 1
      have c2 : w5.cell? ⟨w.heap.size, 2, none⟩ = some (.int .i32 l2) := hp.cell 2
      have d2 : w5.cell? ⟨w.heap.size + 1, 2, none⟩ = some (.int .i32 0) := hr.cell 2
      have z2 := hr.frozen 2
      go_wp2_with fail
      refine (HO0.out _).mono ?_
      rintro e w' ⟨rfl, rfl⟩
      go_wp2_with fail
      refine (HO1.out _).mono ?_
      rintro e w' ⟨rfl, rfl⟩
      go_wp2_with fail
      refine (HO2.out _).mono ?_
      rintro e w' ⟨rfl, rfl⟩
      have hf : Blk (((w5.setCell ⟨w.heap.size + 1, 0, none⟩ (.int .i32 y0)).setCell ⟨w.heap.size + 1, 1, none⟩ (.int .i32 y1)).setCell ⟨w.heap.size + 1, 2, none⟩ (.int .i32 y2)) (w.heap.size + 1) 25 #[.int .i32 y0, .int .i32 y1, .int .i32 y2] := (((hr.set_ 0 (.int .i32 y0)).set_ 1 (.int .i32 y1)).set_ 2 (.int .i32 y2))
      have hbf : Below w.heap.size w (((w5.setCell ⟨w.heap.size + 1, 0, none⟩ (.int .i32 y0)).setCell ⟨w.heap.size + 1, 1, none⟩ (.int .i32 y1)).setCell ⟨w.heap.size + 1, 2, none⟩ (.int .i32 y2)) := (((hb.sc (w.heap.size + 1) 0 (by omega) (.int .i32 y0)).sc (w.heap.size + 1) 1 (by omega) (.int .i32 y1)).sc (w.heap.size + 1) 2 (by omega) (.int .i32 y2))
      have HFF : Hid (Makes3 a0 a1 a2 w (.returned (.tuple #[.agg #[.int .i32 y0, .int .i32 y1, .int .i32 y2], .bool true])) (((w5.setCell ⟨w.heap.size + 1, 0, none⟩ (.int .i32 y0)).setCell ⟨w.heap.size + 1, 1, none⟩ (.int .i32 y1)).setCell ⟨w.heap.size + 1, 2, none⟩ (.int .i32 y2))) := by
       unfold Makes3
       rw [HY.out.1, HY.out.2.1, HY.out.2.2, decide_eq_true hz]
       exact ⟨rfl, hbf⟩
      go_wp2
      generalize (((w5.setCell ⟨w.heap.size + 1, 0, none⟩ (.int .i32 y0)).setCell ⟨w.heap.size + 1, 1, none⟩ (.int .i32 y1)).setCell ⟨w.heap.size + 1, 2, none⟩ (.int .i32 y2)) = wf at *
      have f0 : wf.cell? ⟨w.heap.size + 1, 0, none⟩ = some (.int .i32 y0) := hf.cell 0
      have f1 : wf.cell? ⟨w.heap.size + 1, 1, none⟩ = some (.int .i32 y1) := hf.cell 1
      have f2 : wf.cell? ⟨w.heap.size + 1, 2, none⟩ = some (.int .i32 y2) := hf.cell 2
      simp [bodyPost, results, Tryz.results22, go_sem, f0, f1, f2]
      exact HFF.out
end Go.Proofs.YtgmepohfkpncmaaGreat
