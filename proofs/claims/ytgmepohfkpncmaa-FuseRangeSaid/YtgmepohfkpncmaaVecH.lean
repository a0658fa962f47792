/- Chapter 09: a vector's direction. -/
import Derived.Test.YtgmepohfkpncmaaVecG
import Derived.Test.YtgmepohfkpncmaaUnitE
namespace Go.Proofs.Ytgmepohfkpncmaa
open Go.RowKit
set_option linter.unusedVariables false
set_option linter.unusedSimpArgs false

def Makes3 (a0 a1 a2 : Int) (w : World) (e : Ending) (w' : World) : Prop :=
  e = .returned (.tuple #[.agg #[.int .i32 (makeP [a0, a1, a2] a0), .int .i32 (makeP [a0, a1, a2] a1), .int .i32 (makeP [a0, a1, a2] a2)], .bool (decide (0 < farP [a0, a1, a2]))]) ∧ Below w.heap.size w w'
theorem far3_zero (a0 a1 a2 : Int) (h0 : I32 a0) (h1 : I32 a1) (h2 : I32 a2) : farP [a0, a1, a2] = 0 ∨ 0 < farP [a0, a1, a2] := by
  have := (farP_facts [a0, a1, a2] (by simp; unfold I32 at *; omega)).1
  omega
theorem far3_zero' (a0 a1 a2 : Int) (h0 : I32 a0) (h1 : I32 a1) (h2 : I32 a2) (h : farP [a0, a1, a2] = 0) : a0 = 0 ∧ a1 = 0 ∧ a2 = 0 := by
  obtain ⟨_, _, f, _⟩ := farP_facts [a0, a1, a2] (by simp; unfold I32 at *; omega)
  rw [h] at f
  simp at f
  omega
theorem far3_pos' (a0 a1 a2 : Int) (h : 0 < farP [a0, a1, a2]) : ¬ (a0 = 0 ∧ a1 = 0 ∧ a2 = 0) := by
  rintro ⟨rfl, rfl, rfl⟩
  simp [farP] at h
/-- The parts, grown, and what becomes of them. -/
theorem unit3_facts (a0 a1 a2 : Int) (ia0 : I32 a0) (ia1 : I32 a1) (ia2 : I32 a2) (hz : 0 < farP [a0, a1, a2]) (g0 g1 g2 : Int) (e0 : g0 = a0 * 2 ^ upN [a0, a1, a2]) (e1 : g1 = a1 * 2 ^ upN [a0, a1, a2]) (e2 : g2 = a2 * 2 ^ upN [a0, a1, a2]) :
    I32 g0 ∧ I32 g1 ∧ I32 g2 ∧ 1073741824 ≤ rootP (sqP [g0, g1, g2]) ∧ rootP (sqP [g0, g1, g2]) ≤ 4294967295 ∧
    (-1073741824 ≤ overP (1073741824 * g0) (rootP (sqP [g0, g1, g2])) ∧ overP (1073741824 * g0) (rootP (sqP [g0, g1, g2])) ≤ 1073741824) ∧ (-1073741824 ≤ overP (1073741824 * g1) (rootP (sqP [g0, g1, g2])) ∧ overP (1073741824 * g1) (rootP (sqP [g0, g1, g2])) ≤ 1073741824) ∧ (-1073741824 ≤ overP (1073741824 * g2) (rootP (sqP [g0, g1, g2])) ∧ overP (1073741824 * g2) (rootP (sqP [g0, g1, g2])) ≤ 1073741824) ∧
    makeP [a0, a1, a2] a0 = overP (1073741824 * g0) (rootP (sqP [g0, g1, g2])) ∧ makeP [a0, a1, a2] a1 = overP (1073741824 * g1) (rootP (sqP [g0, g1, g2])) ∧ makeP [a0, a1, a2] a2 = overP (1073741824 * g2) (rootP (sqP [g0, g1, g2])) := by
  obtain ⟨n30, hG, hL1, hL2, hL3⟩ := up_facts [a0, a1, a2] (by unfold I32 at *; simp; omega) hz
  simp only [List.mem_cons, List.not_mem_nil, or_false, forall_eq_or_imp, forall_eq] at hG hL3
  have hu : upL [a0, a1, a2] = [g0, g1, g2] := by rw [e0, e1, e2]; rfl
  have hl : lenP [a0, a1, a2] = rootP (sqP [g0, g1, g2]) := by unfold lenP; rw [hu]
  rw [← e0, ← e1, ← e2] at hG hL3
  rw [hl] at hL1 hL2 hL3
  have hz' : ¬ farP [a0, a1, a2] = 0 := by omega
  unfold makeP oneP
  rw [if_neg hz', if_neg hz', if_neg hz', hl, ← e0, ← e1, ← e2]
  simp only [Int.mul_comm 1073741824]
  generalize rootP (sqP [g0, g1, g2]) = L at *
  exact ⟨hG.1, hG.2.1, hG.2.2, hL1, hL2, over_one g0 L ⟨by omega, hL2⟩ hL3.1 hG.1, over_one g1 L ⟨by omega, hL2⟩ hL3.2.1 hG.2.1, over_one g2 L ⟨by omega, hL2⟩ hL3.2.2 hG.2.2, by trivial, by trivial, by trivial⟩

set_option maxHeartbeats 16000000 in
theorem v_Unit (a0 a1 a2 : Int) (w : World) (ia0 : I32 a0) (ia1 : I32 a1) (ia2 : I32 a2) :
    Calls Try.prog 41 #[.agg #[.int .i32 a0, .int .i32 a1, .int .i32 a2]] w (Makes3 a0 a1 a2 w) := by
  rcases far3_zero a0 a1 a2 ia0 ia1 ia2 with hz | hz
  · obtain ⟨rfl, rfl, rfl⟩ := far3_zero' a0 a1 a2 ia0 ia1 ia2 hz
    have HM : Hid (Ending.returned (.tuple #[.agg #[.int .i32 0, .int .i32 0, .int .i32 0], .bool false]) = .returned (.tuple #[.agg #[.int .i32 (makeP [0, 0, 0] 0), .int .i32 (makeP [0, 0, 0] 0), .int .i32 (makeP [0, 0, 0] 0)], .bool (decide (0 < farP [0, 0, 0]))])) := by unfold makeP; rw [hz]; rfl
    clear hz ia0 ia1 ia2
    go_enter Try.func41, Try.ntmps41
    go_wp2
    simp [bodyPost, results, Try.results41, go_sem]
    exact ⟨HM.out, ((Below.refl _ w).alloc (Nat.le_refl _) _).alloc (by simp) _⟩
  · have hn := far3_pos' a0 a1 a2 hz
    go_enter Try.func41, Try.ntmps41
    go_upto_region 1 with fail
    have hp : Blk ((w.alloc (.cells #[.int .i32 a0, .int .i32 a1, .int .i32 a2] 25)).alloc (.cells #[.int .i32 0, .int .i32 0, .int .i32 0] 25)) w.heap.size 25 #[.int .i32 a0, .int .i32 a1, .int .i32 a2] := (Blk.new w _ _).alloc _
    have hr : Blk ((w.alloc (.cells #[.int .i32 a0, .int .i32 a1, .int .i32 a2] 25)).alloc (.cells #[.int .i32 0, .int .i32 0, .int .i32 0] 25)) (w.heap.size + 1) 25 #[.int .i32 0, .int .i32 0, .int .i32 0] := by have := Blk.new (w.alloc (.cells #[.int .i32 a0, .int .i32 a1, .int .i32 a2] 25)) 25 #[.int .i32 0, .int .i32 0, .int .i32 0]; simpa using this
    have hb : Below w.heap.size w ((w.alloc (.cells #[.int .i32 a0, .int .i32 a1, .int .i32 a2] 25)).alloc (.cells #[.int .i32 0, .int .i32 0, .int .i32 0] 25)) := ((Below.refl _ w).alloc (Nat.le_refl _) _).alloc (by simp) _
    generalize (w.alloc (.cells #[.int .i32 a0, .int .i32 a1, .int .i32 a2] 25)).alloc (.cells #[.int .i32 0, .int .i32 0, .int .i32 0] 25) = W0 at *
    go_cut [10] from 8 to 9 (fun x wx => x = .bool false ∧ wx = W0)
    case first =>
      have f0 : W0.cell? ⟨w.heap.size, 0, none⟩ = some (.int .i32 a0) := hp.cell 0
      have f1 : W0.cell? ⟨w.heap.size, 1, none⟩ = some (.int .i32 a1) := hp.cell 1
      have f2 : W0.cell? ⟨w.heap.size, 2, none⟩ = some (.int .i32 a2) := hp.cell 2
      go_wp2
      all_goals (try subst_vars)
      all_goals (go_meet)
      all_goals (exact ⟨rfl, rfl⟩)
    case rest =>
      obtain ⟨rfl, rfl⟩ := hcut
      clear hn
      have f0 : wc.cell? ⟨w.heap.size, 0, none⟩ = some (.int .i32 a0) := hp.cell 0
      have f1 : wc.cell? ⟨w.heap.size, 1, none⟩ = some (.int .i32 a1) := hp.cell 1
      have f2 : wc.cell? ⟨w.heap.size, 2, none⟩ = some (.int .i32 a2) := hp.cell 2
      have hmf : ∀ (fn : Fn) (first cap : Array Value) (w : World), (Instr.makeFunc fn first cap).run Try.prog w = .ok (.func fn first cap) w := fun _ _ _ _ => rfl
      have HP := hid fun w => v_parts a0 a1 a2 w
      have hd := fun w => v_doubled a0 a1 a2 w ia0 ia1 ia2 hz
      unfold Doubles at hd
      have hu := unit3_facts a0 a1 a2 ia0 ia1 ia2 hz _ _ _ rfl rfl rfl
      generalize a0 * 2 ^ upN [a0, a1, a2] = g0 at *
      generalize a1 * 2 ^ upN [a0, a1, a2] = g1 at *
      generalize a2 * 2 ^ upN [a0, a1, a2] = g2 at *
      obtain ⟨ig0, ig1, ig2, L1, L2, o0, o1, o2, k0, k1, k2⟩ := hu
      have HD := hid hd
      clear hd
      have HL := hid fun (g : Nat) w h => root_Length (some ⟨g, 0, none⟩) 3 3 [g0, g1, g2] w h (by unfold I32 at *; simp; omega) (by omega)
      generalize rootP (sqP [g0, g1, g2]) = L at *
      have HK := hid (And.intro k0 (And.intro k1 k2))
      clear k0 k1 k2
      go_wp2_with fail
      refine (HP.out _).mono ?_
      rintro e w1 ⟨rfl, b1⟩
      replace hr := hr.below b1 hr.lt
      replace hb := hb.on b1
      clear f0 f1 f2 hp b1
      go_wp2_with fail
      refine (HD.out _).mono ?_
      rintro e w2 ⟨rfl, b2⟩
      replace hr := (hr.below b2 hr.lt).alloc (.cells #[.int .i32 g0, .int .i32 g1, .int .i32 g2] 77)
      replace hb := (hb.on b2).alloc (hb.on b2).size (.cells #[.int .i32 g0, .int .i32 g1, .int .i32 g2] 77)
      have hG := Blk.new w2 77 #[.int .i32 g0, .int .i32 g1, .int .i32 g2]
      clear b2
      go_wp2_with fail
      generalize w2.alloc (.cells #[.int .i32 g0, .int .i32 g1, .int .i32 g2] 77) = w3 at *
      generalize w2.heap.size = gG at *
      refine (HL.out _ _ (Row.blk hG rfl hG.lt)).mono ?_
      rintro e w' ⟨rfl, rfl⟩
      have uL : IntKind.i64.wrap L = L := IntWalk.i64_in _ (by omega)
      have hl := Blk.new w3 2 #[.int .i64 L]
      replace hr := hr.alloc (.cells #[.int .i64 L] 2)
      replace hG := hG.alloc (.cells #[.int .i64 L] 2)
      replace hb := hb.alloc hb.size (.cells #[.int .i64 L] 2)
      generalize hw4 : w3.alloc (.cells #[.int .i64 L] 2) = w4 at *
      generalize hgl : w3.heap.size = gL at *
      have HE := v_each_Unit (.pointer (some ⟨gG, 0, none⟩)) (.pointer (some ⟨gL, 0, none⟩)) (overP (1073741824 * g0) L) (overP (1073741824 * g1) L) (overP (1073741824 * g2) L) w4 (by unfold I64; omega) (by unfold I64; omega) (by unfold I64; omega) (by
        intro i V hi w' hw
        rcases hi with ⟨rfl, rfl⟩ | ⟨rfl, rfl⟩ | ⟨rfl, rfl⟩
        · exact c_Unit0 gG gL g0 g1 g2 L w' ig0 ig1 ig2 (by unfold I64; omega) (hG.below hw hG.lt) (hl.below hw hl.lt)
        · exact c_Unit1 gG gL g0 g1 g2 L w' ig0 ig1 ig2 (by unfold I64; omega) (hG.below hw hG.lt) (hl.below hw hl.lt)
        · exact c_Unit2 gG gL g0 g1 g2 L w' ig0 ig1 ig2 (by unfold I64; omega) (hG.below hw hG.lt) (hl.below hw hl.lt))
      rw [clampP_in _ (show I32 _ by unfold I32; omega), clampP_in _ (show I32 _ by unfold I32; omega), clampP_in _ (show I32 _ by unfold I32; omega)] at HE
      generalize cutC (overP (1073741824 * g0) L) + cutC (overP (1073741824 * g1) L) + cutC (overP (1073741824 * g2) L) = N at *
      generalize overP (1073741824 * g0) L = y0 at *
      generalize overP (1073741824 * g1) L = y1 at *
      generalize overP (1073741824 * g2) L = y2 at *
      have HE2 := hid HE
      clear HE o0 o1 o2
      go_wp2_with fail
      refine (HE2.out).mono ?_
      rintro e w5 ⟨rfl, b5⟩
      replace hr := (hr.below b5 hr.lt).alloc (.cells #[.int .i32 y0, .int .i32 y1, .int .i32 y2] 25)
      replace hb := (hb.on b5).alloc (hb.on b5).size (.cells #[.int .i32 y0, .int .i32 y1, .int .i32 y2] 25)
      have hY := Blk.new w5 25 #[.int .i32 y0, .int .i32 y1, .int .i32 y2]
      have c0 : (w5.alloc (.cells #[.int .i32 y0, .int .i32 y1, .int .i32 y2] 25)).cell? ⟨w5.heap.size, 0, none⟩ = some (.int .i32 y0) := hY.cell 0
      have d0 : (w5.alloc (.cells #[.int .i32 y0, .int .i32 y1, .int .i32 y2] 25)).cell? ⟨w.heap.size + 1, 0, none⟩ = some (.int .i32 0) := hr.cell 0
      have z0 := hr.frozen 0
      have c1 : (w5.alloc (.cells #[.int .i32 y0, .int .i32 y1, .int .i32 y2] 25)).cell? ⟨w5.heap.size, 1, none⟩ = some (.int .i32 y1) := hY.cell 1
      have d1 : (w5.alloc (.cells #[.int .i32 y0, .int .i32 y1, .int .i32 y2] 25)).cell? ⟨w.heap.size + 1, 1, none⟩ = some (.int .i32 0) := hr.cell 1
      have z1 := hr.frozen 1
      have c2 : (w5.alloc (.cells #[.int .i32 y0, .int .i32 y1, .int .i32 y2] 25)).cell? ⟨w5.heap.size, 2, none⟩ = some (.int .i32 y2) := hY.cell 2
      have d2 : (w5.alloc (.cells #[.int .i32 y0, .int .i32 y1, .int .i32 y2] 25)).cell? ⟨w.heap.size + 1, 2, none⟩ = some (.int .i32 0) := hr.cell 2
      have z2 := hr.frozen 2
      have hf : Blk ((((w5.alloc (.cells #[.int .i32 y0, .int .i32 y1, .int .i32 y2] 25)).setCell ⟨w.heap.size + 1, 0, none⟩ (.int .i32 y0)).setCell ⟨w.heap.size + 1, 1, none⟩ (.int .i32 y1)).setCell ⟨w.heap.size + 1, 2, none⟩ (.int .i32 y2)) (w.heap.size + 1) 25 #[.int .i32 y0, .int .i32 y1, .int .i32 y2] := (((hr.set_ 0 (.int .i32 y0)).set_ 1 (.int .i32 y1)).set_ 2 (.int .i32 y2))
      have hbf : Below w.heap.size w ((((w5.alloc (.cells #[.int .i32 y0, .int .i32 y1, .int .i32 y2] 25)).setCell ⟨w.heap.size + 1, 0, none⟩ (.int .i32 y0)).setCell ⟨w.heap.size + 1, 1, none⟩ (.int .i32 y1)).setCell ⟨w.heap.size + 1, 2, none⟩ (.int .i32 y2)) := (((hb.setCell (p := ⟨w.heap.size + 1, 0, none⟩) (by dsimp only; omega) (.int .i32 y0)).setCell (p := ⟨w.heap.size + 1, 1, none⟩) (by dsimp only; omega) (.int .i32 y1)).setCell (p := ⟨w.heap.size + 1, 2, none⟩) (by dsimp only; omega) (.int .i32 y2))
      have HF : Hid (Makes3 a0 a1 a2 w (.returned (.tuple #[.agg #[.int .i32 y0, .int .i32 y1, .int .i32 y2], .bool true])) ((((w5.alloc (.cells #[.int .i32 y0, .int .i32 y1, .int .i32 y2] 25)).setCell ⟨w.heap.size + 1, 0, none⟩ (.int .i32 y0)).setCell ⟨w.heap.size + 1, 1, none⟩ (.int .i32 y1)).setCell ⟨w.heap.size + 1, 2, none⟩ (.int .i32 y2))) := by
        unfold Makes3
        rw [HK.out.1, HK.out.2.1, HK.out.2.2, decide_eq_true hz]
        exact ⟨rfl, hbf⟩
      go_wp2
      generalize ((((w5.alloc (.cells #[.int .i32 y0, .int .i32 y1, .int .i32 y2] 25)).setCell ⟨w.heap.size + 1, 0, none⟩ (.int .i32 y0)).setCell ⟨w.heap.size + 1, 1, none⟩ (.int .i32 y1)).setCell ⟨w.heap.size + 1, 2, none⟩ (.int .i32 y2)) = wf at *
      have f0 : wf.cell? ⟨w.heap.size + 1, 0, none⟩ = some (.int .i32 y0) := hf.cell 0
      have f1 : wf.cell? ⟨w.heap.size + 1, 1, none⟩ = some (.int .i32 y1) := hf.cell 1
      have f2 : wf.cell? ⟨w.heap.size + 1, 2, none⟩ = some (.int .i32 y2) := hf.cell 2
      simp [bodyPost, results, Try.results41, go_sem, f0, f1, f2]
      exact HF.out
end Go.Proofs.Ytgmepohfkpncmaa
