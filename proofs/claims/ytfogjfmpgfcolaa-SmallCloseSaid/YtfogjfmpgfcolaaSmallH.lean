/- Chapter 12: the document's Unpack; its Pack of what is no unit. -/
import Derived.Test.YtfogjfmpgfcolaaSmallF
import Derived.Test.YtfogjfmpgfcolaaSmallP
import Derived.Test.YtfogjfmpgfcolaaRootC
import Derived.Test.YtfogjfmpgfcolaaBitsK
namespace Go.Proofs.Ytfogjfmpgfcolaa
open Go.RowKit
set_option linter.unusedVariables false
set_option linter.unusedSimpArgs false
attribute [local go_sem] Oper.semAt_some
theorem r12_PackN (q0 q1 q2 q3 : Int) (w : World) (iq0 : I32 q0) (iq1 : I32 q1) (iq2 : I32 q2) (iq3 : I32 q3) (hu : isP (sqP [q0, q1, q2, q3]) = false) :
    Calls Try.prog 28 #[.agg #[.int .i32 q0, .int .i32 q1, .int .i32 q2, .int .i32 q3]] w fun e w' => e = .returned (.tuple #[.int .u32 0, .bool false]) ∧ Below w.heap.size w w' := by
  have HU := hid fun w => r11_Is q0 q1 q2 q3 w iq0 iq1 iq2 iq3
  rw [hu] at HU
  clear hu iq0 iq1 iq2 iq3
  go_enter Try.func28, Try.ntmps28
  have hq := Blk.new w 23 #[.int .i32 q0, .int .i32 q1, .int .i32 q2, .int .i32 q3]
  have hB := (Below.refl w.heap.size w).alloc (Nat.le_refl _) (.cells #[.int .i32 q0, .int .i32 q1, .int .i32 q2, .int .i32 q3] 23)
  have f0 : (w.alloc (.cells #[.int .i32 q0, .int .i32 q1, .int .i32 q2, .int .i32 q3] 23)).cell? ⟨w.heap.size, 0, none⟩ = some (.int .i32 q0) := hq.cell 0
  have f1 : (w.alloc (.cells #[.int .i32 q0, .int .i32 q1, .int .i32 q2, .int .i32 q3] 23)).cell? ⟨w.heap.size, 1, none⟩ = some (.int .i32 q1) := hq.cell 1
  have f2 : (w.alloc (.cells #[.int .i32 q0, .int .i32 q1, .int .i32 q2, .int .i32 q3] 23)).cell? ⟨w.heap.size, 2, none⟩ = some (.int .i32 q2) := hq.cell 2
  have f3 : (w.alloc (.cells #[.int .i32 q0, .int .i32 q1, .int .i32 q2, .int .i32 q3] 23)).cell? ⟨w.heap.size, 3, none⟩ = some (.int .i32 q3) := hq.cell 3
  go_wp2_with fail
  have hsz := hB.size
  generalize w.alloc (.cells #[.int .i32 q0, .int .i32 q1, .int .i32 q2, .int .i32 q3] 23) = W0 at *
  refine (HU.out _).mono ?_
  rintro e w1 ⟨rfl, b1⟩
  replace hB := hB.trans (b1.mono hsz)
  go_wp2_with fail
  go_ret2
  exact ⟨rfl, hB⟩

def lenU (b : Nat) (t : Nat) : Nat := if t ≤ b then t else t + 1
def lstU (b : Nat) (p1 p2 p3 : Int) : Nat → List Int
  | 0 => []
  | t + 1 => (if lenU b t = b then lstU b p1 p2 p3 t ++ [0] else lstU b p1 p2 p3 t) ++ [partP (pk p1 p2 p3 t)]
def sumU (p1 p2 p3 : Int) : Nat → Int
  | 0 => 0
  | t + 1 => sumU p1 p2 p3 t + partP (pk p1 p2 p3 t) * partP (pk p1 p2 p3 t)
theorem sumU_bd (p1 p2 p3 : Int) (h1 : 0 ≤ p1 ∧ p1 ≤ 1023) (h2 : 0 ≤ p2 ∧ p2 ≤ 1023) (h3 : 0 ≤ p3 ∧ p3 ≤ 1023) : ∀ t : Nat, 0 ≤ sumU p1 p2 p3 t ∧ sumU p1 p2 p3 t ≤ 578719165843267969 * (t : Int)
  | 0 => by unfold sumU; omega
  | t + 1 => by
    have ih := sumU_bd p1 p2 p3 h1 h2 h3 t
    have := part_sq (pk p1 p2 p3 t) (pk_bd p1 p2 p3 t h1 h2 h3)
    unfold sumU
    push_cast
    omega
theorem sumU_left (p1 p2 p3 : Int) : sumU p1 p2 p3 3 = 1152921504606846976 - leftP p1 p2 p3 (upK 3) := by
  rw [leftP_3]
  show 0 + partP p1 * partP p1 + partP p2 * partP p2 + partP p3 * partP p3 = _
  omega
def lstE (b : Nat) (p1 p2 p3 : Int) : List Int := if b = 3 then lstU b p1 p2 p3 3 ++ [0] else lstU b p1 p2 p3 3
theorem lstE_set (b : Nat) (p1 p2 p3 : Int) (hb : b < 4) : (lstE b p1 p2 p3).set b (rootP (leftP p1 p2 p3 (upK 3))) = [unI b p1 p2 p3 0, unI b p1 p2 p3 1, unI b p1 p2 p3 2, unI b p1 p2 p3 3] := by
  obtain rfl | rfl | rfl | rfl : b = 0 ∨ b = 1 ∨ b = 2 ∨ b = 3 := by omega
  all_goals rfl
theorem results_q2 (w : World) (tmps : Array Value) (g : Nat) (cs : Array Value) (v : Value) (h2 : tmps.getD 2 undef = .pointer (some ⟨g, 0, none⟩)) (h3 : tmps.getD 3 undef = v)
    (hg : Blk w g 23 cs) (hs : cs.size = 4) : (results Try.f31 tmps).run Try.prog w = .ok (.tuple #[.agg cs, v]) w := by
  obtain ⟨c0, c1, c2, c3, rfl⟩ : ∃ c0 c1 c2 c3, cs = #[c0, c1, c2, c3] := ⟨cs[0], cs[1], cs[2], cs[3], by
    apply Array.ext
    · simp [hs]
    · intro i h1 h2
      obtain rfl | rfl | rfl | rfl : i = 0 ∨ i = 1 ∨ i = 2 ∨ i = 3 := by simp at h2; omega
      all_goals rfl⟩
  have f0 := hg.cell 0
  have f1 := hg.cell 1
  have f2 := hg.cell 2
  have f3 := hg.cell 3
  simp at f0 f1 f2 f3
  simp at h2 h3
  simp only [results, Try.f31]
  simp [h2, h3]
  go_simp
theorem infoI32 : (Try.prog.info? 21).map (fun i => (i.zero, i.size, i.bytes)) = some (some (.int .i32 0), 1, 4) := by kernel_rfl
/-- What stays of the frame. -/
def QFalse (w : World) (p1 p2 p3 : Int) (b : Nat) (w' : World) : Prop := Below w.heap.size w w'
set_option maxRecDepth 20000 in
set_option maxHeartbeats 8000000 in
theorem r12_Unpack (u p1 p2 p3 : Int) (b : Nat) (w : World) (hu : 0 ≤ u ∧ u ≤ 4294967295) (hb : b < 4) (h1 : 0 ≤ p1 ∧ p1 ≤ 1023) (h2 : 0 ≤ p2 ∧ p2 ≤ 1023) (h3 : 0 ≤ p3 ∧ p3 ≤ 1023) (hp : splitP u widL = [(b : Int), p1, p2, p3]) :
    Calls Try.prog 31 #[.int .u32 u] w fun e w' => e = .returned (.tuple #[.agg (unV b p1 p2 p3), .bool (unB p1 p2 p3)]) ∧ Below w.heap.size w w' := by
  have hok : okF 32 widL = true := by decide +kernel
  have HS := hid fun (w : World) gw (hw : Row .i64 w w.heap.size (some ⟨gw, 0, none⟩) 4 widL) => r8_Split (some ⟨gw, 0, none⟩) 4 4 widL u w hu hw (by decide) (by omega)
  rw [hp, hok] at HS
  simp only [List.length_cons, List.length_nil, Nat.reduceAdd] at HS
  clear hp hok
  obtain ⟨i0, hi0, hz0, hz1, hz2⟩ := info_parts4 infoI32
  have ub : IntKind.i64.wrap (b : Int) = (b : Int) := IntWalk.i64_in _ (by omega)
  go_enter Try.func31, Try.ntmps31
  have hq := (Blk.new w 23 #[.int .i32 0, .int .i32 0, .int .i32 0, .int .i32 0]).alloc (.cells #[.int .i64 2, .int .i64 10, .int .i64 10, .int .i64 10] 3)
  have hB := ((Below.refl w.heap.size w).alloc (Nat.le_refl _) (.cells #[.int .i32 0, .int .i32 0, .int .i32 0, .int .i32 0] 23)).alloc (by simp) (.cells #[.int .i64 2, .int .i64 10, .int .i64 10, .int .i64 10] 3)
  have gw := Blk.new (w.alloc (.cells #[.int .i32 0, .int .i32 0, .int .i32 0, .int .i32 0] 23)) 3 #[.int .i64 2, .int .i64 10, .int .i64 10, .int .i64 10]
  simp only [World.size_alloc] at gw
  go_wp2_with fail
  have hlt : w.heap.size + 1 < ((w.alloc (.cells #[.int .i32 0, .int .i32 0, .int .i32 0, .int .i32 0] 23)).alloc (.cells #[.int .i64 2, .int .i64 10, .int .i64 10, .int .i64 10] 3)).heap.size := by simp
  generalize (w.alloc (.cells #[.int .i32 0, .int .i32 0, .int .i32 0, .int .i32 0] 23)).alloc (.cells #[.int .i64 2, .int .i64 10, .int .i64 10, .int .i64 10] 3) = W1 at *
  refine (HS.out W1 (w.heap.size + 1) (Row.blk (xs := widL) gw rfl hlt)).mono ?_
  rintro e W2 ⟨A, c, rfl, hr, b2⟩
  clear gw
  replace hq := hq.below b2 hq.lt
  replace hB := hB.trans (b2.mono hB.size)
  have hW2 : w.heap.size + 1 < W2.heap.size := by have := b2.size; omega
  clear b2 hlt
  obtain ⟨ad, rfl, had, _⟩ := hr.at_ (show 0 < 4 by omega)
  have f1 : W2.cell? (ad.add 0) = some (.int .u32 b) := (hr.2.2 ad rfl 0 (by omega)).2
  have f2 : W2.cell? ad = some (.int .u32 b) := f1
  go_wp2_with fail
  clear f1 f2
  go_loopw [7, 8, 9] (fun vl vs vi wr => ∃ (t : Nat) (A1 : Option Addr) (c1 : Nat), t ≤ 3 ∧ vi = .int .i64 ((t + 1 : Nat) : Int) ∧ vs = .int .i64 (sumU p1 p2 p3 t) ∧ vl = .slice A1 (lenU b t) c1 ∧ Own .i32 wr W2.heap.size 21 A1 (lenU b t) c1 (lstU b p1 p2 p3 t) ∧ Below W2.heap.size W2 wr ∧ Hid (∀ k, k < t → pk p1 p2 p3 k ≠ 0)) (fun _ _ vi _ => 4 - (intOf vi).toNat)
  case atStart => exact ⟨0, none, 0, by omega, rfl, rfl, rfl, Own.nil_ _ _ _ _, Below.refl _ _, hid fun k hk => by omega⟩
  case round =>
    obtain ⟨t, A1, c1, ht, rfl, rfl, rfl, ho, hbw, hnz⟩ := hrel
    have hsw := hbw.size
    have hrr := hr.below hbw
    have hqr := hq.below hbw hq.lt
    by_cases hlt : t < 3
    · have hnn := pk_bd p1 p2 p3 t h1 h2 h3
      have hgn : [(b : Int), p1, p2, p3][t + 1]?.getD 0 = pk p1 p2 p3 t := rfl
      have hsb := sumU_bd p1 p2 p3 h1 h2 h3 t
      have hsb2 := sumU_bd p1 p2 p3 h1 h2 h3 (t + 1)
      have hse : sumU p1 p2 p3 (t + 1) = sumU p1 p2 p3 t + partP (pk p1 p2 p3 t) * partP (pk p1 p2 p3 t) := rfl
      rw [hse] at hsb2
      have HSE := hid hse
      clear hse
      have hpt := part_bd (pk p1 p2 p3 t) hnn
      have hps := part_sq (pk p1 p2 p3 t) hnn
      have HP := hid fun w => fxr_Over ((pk p1 p2 p3 t - 512) * 759250125) 511 w (by unfold I64; omega) (by unfold I64; omega)
      have HPP : Hid (overP ((pk p1 p2 p3 t - 512) * 759250125) 511 = partP (pk p1 p2 p3 t)) := rfl
      rw [HPP.out] at HP
      have HNZ : Hid (pk p1 p2 p3 t ≠ 0 → ∀ k, k < t + 1 → pk p1 p2 p3 k ≠ 0) := hid fun h k hk => by
        rcases Nat.lt_or_ge k t with g | g
        · exact hnz.out k g
        · obtain rfl : k = t := by omega
          exact h
      have HUB : Hid (pk p1 p2 p3 t = 0 → unB p1 p2 p3 = false) := hid fun hz => by
        unfold unB
        match t, hlt with
        | 0, _ => simp only [pk] at hz; simp at hz; simp [hz]
        | 1, _ => simp only [pk] at hz; simp at hz; simp [hz]
        | 2, _ => simp only [pk] at hz; simp at hz; simp [hz]
      have HLE : Hid (lstU b p1 p2 p3 (t + 1) = (if lenU b t = b then lstU b p1 p2 p3 t ++ [0] else lstU b p1 p2 p3 t) ++ [partP (pk p1 p2 p3 t)]) := hid rfl
      have HLN : Hid (lenU b (t + 1) = if lenU b t = b then lenU b t + 1 + 1 else lenU b t + 1) := hid (by unfold lenU; split <;> split <;> split <;> omega)
      have hle : lenU b t ≤ 4 := by unfold lenU; split <;> omega
      clear hnz HPP
      obtain ⟨j, hj⟩ : ∃ j, t + 1 = j := ⟨_, rfl⟩
      rw [hj] at hgn
      have HJ := hid hj
      have cj0 := (hrr.2.2 ad rfl j (by omega)).2
      rw [hgn] at cj0
      have j1 : (0 : Int) ≤ (j : Int) := by omega
      have j2 : (j : Int) < 4 := by omega
      have ej : IntKind.i64.wrap ((j : Int) + 1) = ((j + 1 : Nat) : Int) := (IntWalk.i64_in _ (by omega)).trans (by omega)
      have mj : 4 - (j + 1) < 4 - j := by omega
      have hj3 : j ≤ 3 := by omega
      generalize sumU p1 p2 p3 t = s at *
      generalize partP (pk p1 p2 p3 t) = x at *
      generalize pk p1 p2 p3 t = n at *
      generalize lstU b p1 p2 p3 t = ls at *
      generalize lenU b t = m at *
      rw [hj] at HSE HNZ HLE HLN ⊢
      have ux : IntKind.i32.wrap x = x := IntWalk.i32_in _ (by omega)
      have uxx : IntKind.i64.wrap (x * x) = x * x := IntWalk.i64_in _ (by omega)
      have ulx : IntKind.i64.wrap (s + x * x) = s + x * x := IntWalk.i64_in _ (by omega)
      have un0 : IntKind.i64.wrap n = n := IntWalk.i64_in _ (by omega)
      have un1 : IntKind.i64.wrap (n - 512) = n - 512 := IntWalk.i64_in _ (by omega)
      have un2 : IntKind.i64.wrap ((n - 512) * 759250125) = (n - 512) * 759250125 := IntWalk.i64_in _ (by omega)
      clear hgn hj
      by_cases hz : n = 0
      · have HUF := hid (HUB.out hz)
        subst hz
        have c0 : wr.cell? ⟨w.heap.size, 0, none⟩ = some (.int .i32 0) := hqr.cell 0
        have c1 : wr.cell? ⟨w.heap.size, 1, none⟩ = some (.int .i32 0) := hqr.cell 1
        have c2 : wr.cell? ⟨w.heap.size, 2, none⟩ = some (.int .i32 0) := hqr.cell 2
        have c3 : wr.cell? ⟨w.heap.size, 3, none⟩ = some (.int .i32 0) := hqr.cell 3
        have z0 := hqr.frozen 0
        have z1 := hqr.frozen 1
        have z2 := hqr.frozen 2
        have z3 := hqr.frozen 3
        go_wp2_with fail
        have G5 : Blk ((((wr.setCell ⟨w.heap.size, 0, none⟩ (.int .i32 0)).setCell ⟨w.heap.size, 1, none⟩ (.int .i32 0)).setCell ⟨w.heap.size, 2, none⟩ (.int .i32 0)).setCell ⟨w.heap.size, 3, none⟩ (.int .i32 0)) w.heap.size 23 #[.int .i32 0, .int .i32 0, .int .i32 0, .int .i32 0] := (((hqr.set_ 0 (.int .i32 0)).set_ 1 (.int .i32 0)).set_ 2 (.int .i32 0)).set_ 3 (.int .i32 0)
        have G7 : Below w.heap.size w ((((wr.setCell ⟨w.heap.size, 0, none⟩ (.int .i32 0)).setCell ⟨w.heap.size, 1, none⟩ (.int .i32 0)).setCell ⟨w.heap.size, 2, none⟩ (.int .i32 0)).setCell ⟨w.heap.size, 3, none⟩ (.int .i32 0)) := ((((hB.trans (hbw.mono hB.size)).setCell (by simp) _).setCell (by simp) _).setCell (by simp) _).setCell (by simp) _
        refine bodyPost_ret (results_q2 _ _ w.heap.size _ _ rfl rfl G5 rfl) rfl ⟨?_, G7⟩
        rw [show unV b p1 p2 p3 = #[.int .i32 0, .int .i32 0, .int .i32 0, .int .i32 0] by unfold unV; rw [HUF.out]; rfl, HUF.out]
        rfl
      · have dz : decide (n = 0) = false := by simpa using hz
        have HN2 := hid (HNZ.out hz)
        clear HNZ HUB
        by_cases hm : m = b
        · subst hm
          have dm : decide ((m : Int) = (m : Int)) = true := by simp
          rw [if_pos rfl] at HLE HLN
          go_upto_region 10 with fail
          go_wp2_with fail
          refine (HP.out _).mono ?_
          rintro e w' ⟨rfl, rfl⟩
          go_upto_region 13 with (at_builtin; refine wpList_app rfl (.tmp 43) (.tmp 44) _ rfl W2.heap.size 21 i0 0 4 Try.underlying39 hi0 hz0 hz1 hz2 A1 m c1 ls rfl (ho.alloc _) (wr.heap.size + 1) (some ⟨wr.heap.size, 0, none⟩) 1 1 [0] rfl (Row.blk (Blk.new _ _ _) rfl (by omega)) (by unfold maxLen; omega) (by omega) (by simp; omega) ?_; intro A2 c2 w3 ho3 hg3; have be3 := own_below_alloc hbw ho _ hg3 hsw)
          have hs3 := be3.size
          go_wp2_with (at_builtin; refine wpList_app rfl (.tmp 46) (.tmp 49) _ rfl W2.heap.size 21 i0 0 4 Try.underlying39 hi0 hz0 hz1 hz2 A2 (m + 1) c2 (ls ++ [0]) rfl (ho3.alloc _) (w3.heap.size + 1) (some ⟨w3.heap.size, 0, none⟩) 1 1 [x] rfl (Row.blk (Blk.new _ _ _) rfl (by omega)) (by unfold maxLen; omega) (by omega) (by simp; omega) ?_; intro A4 c4 w5 ho5 hg5; have be5 := own_below_alloc be3 ho3 _ hg5 hs3)
          go_round
          case rel => exact ⟨j, A4, c4, hj3, rfl, by rw [HSE.out], by rw [HLN.out], by rw [HLN.out, HLE.out]; exact ho5, be5, HN2⟩
          case measure => simpa [intOf] using mj
        · have dm : decide ((m : Int) = (b : Int)) = false := by simp; omega
          rw [if_neg hm] at HLE HLN
          go_upto_region 10 with fail
          go_wp2_with fail
          refine (HP.out _).mono ?_
          rintro e w' ⟨rfl, rfl⟩
          go_wp2_with (at_builtin; refine wpList_app rfl (.tmp 46) (.tmp 49) _ rfl W2.heap.size 21 i0 0 4 Try.underlying39 hi0 hz0 hz1 hz2 A1 m c1 ls rfl (ho.alloc _) (wr.heap.size + 1) (some ⟨wr.heap.size, 0, none⟩) 1 1 [x] rfl (Row.blk (Blk.new _ _ _) rfl (by omega)) (by unfold maxLen; omega) (by omega) (by simp; omega) ?_; intro A2 c2 w3 ho3 hg3; have be3 := own_below_alloc hbw ho _ hg3 hsw)
          go_round
          case rel => exact ⟨j, A2, c2, hj3, rfl, by rw [HSE.out], by rw [HLN.out], by rw [HLN.out, HLE.out]; exact ho3, be3, HN2⟩
          case measure => simpa [intOf] using mj
    · obtain rfl : t = 3 := by omega
      have hz1 : p1 ≠ 0 := hnz.out 0 (by omega)
      have hz2 : p2 ≠ 0 := hnz.out 1 (by omega)
      have hz3 : p3 ≠ 0 := hnz.out 2 (by omega)
      have hl3 := leftP_bd p1 p2 p3 (upK 3) h1 h2 h3 (by simp [upK])
      have hsl := sumU_left p1 p2 p3
      have HU : unB p1 p2 p3 = decide (0 ≤ leftP p1 p2 p3 (upK 3)) := by unfold unB; simp [hz1, hz2, hz3]
      have HC := hid (unC_unI b p1 p2 p3 hb)
      have HLS := lstE_set b p1 p2 p3 hb
      have hLL : leftP p1 p2 p3 (upK 3) = 1152921504606846976 - sumU p1 p2 p3 3 := by omega
      rw [hLL] at HU HLS hl3
      have HL3 : b = 3 → lstE b p1 p2 p3 = lstU b p1 p2 p3 3 ++ [0] ∧ lenU b 3 = 3 := fun h => by subst h; exact ⟨rfl, rfl⟩
      have HL4 : b ≠ 3 → lstE b p1 p2 p3 = lstU b p1 p2 p3 3 ∧ lenU b 3 = 4 := fun h => ⟨if_neg h, by unfold lenU; rw [if_neg (by omega)]⟩
      have hl3' : (1152921504606846976 - sumU p1 p2 p3 3) ≤ 1152921504606846976 := hl3.2
      have HUT : Hid (¬ (1152921504606846976 < sumU p1 p2 p3 3) → unB p1 p2 p3 = true) := hid fun h => by rw [HU]; simp; omega
      have HUF0 : Hid (1152921504606846976 < sumU p1 p2 p3 3 → unB p1 p2 p3 = false) := hid fun h => by rw [HU]; simp; omega
      have hs0 := sumU_bd p1 p2 p3 h1 h2 h3 3
      have hs3 : sumU p1 p2 p3 3 ≤ 1736157497529803907 := by omega
      clear HU hsl hLL hl3 hz1 hz2 hz3 hnz
      generalize unI b p1 p2 p3 0 = U0 at *
      generalize unI b p1 p2 p3 1 = U1 at *
      generalize unI b p1 p2 p3 2 = U2 at *
      generalize unI b p1 p2 p3 3 = U3 at *
      generalize sumU p1 p2 p3 3 = s at *
      generalize lstU b p1 p2 p3 3 = ls at *
      generalize lstE b p1 p2 p3 = lE at *
      generalize lenU b 3 = m at *
      have HL3' := hid HL3
      have HL4' := hid HL4
      have HLS' := hid HLS
      have hs00 : 0 ≤ s := hs0.1
      clear HL3 HL4 HLS hs0
      rw [show (((3 + 1 : Nat)) : Int) = 4 from rfl]
      go_upto_if 57 with fail
      go_cut [7] from 56 to 60 (fun vl wx => ∃ (A2 : Option Addr) (c2 : Nat), vl = .slice A2 4 c2 ∧ Own .i32 wx W2.heap.size 21 A2 4 c2 lE ∧ Below W2.heap.size W2 wx)
      case first =>
        by_cases hb3 : b = 3
        · obtain ⟨e1, e2⟩ := HL3'.out hb3
          subst e1
          subst e2
          have db : decide ((b : Int) = 3) = true := by simp; omega
          have db2 : decide (b = 3) = true := by simp; omega
          have db3 : ((b : Int) == 3) = true := by simp; omega
          clear hb3
          go_wp2_with (at_builtin; refine wpList_app rfl (.tmp 58) (.tmp 59) _ rfl W2.heap.size 21 i0 0 4 Try.underlying39 hi0 hz0 hz1 hz2 A1 3 c1 ls rfl (ho.alloc _) (wr.heap.size + 1) (some ⟨wr.heap.size, 0, none⟩) 1 1 [0] rfl (Row.blk (Blk.new _ _ _) rfl (by omega)) (by unfold maxLen; omega) (by omega) (by simp; omega) ?_; intro A2 c2 w3 ho3 hg3; have be3 := own_below_alloc hbw ho _ hg3 hsw)
          go_meet
          exact ⟨A2, c2, rfl, ho3, be3⟩
        · obtain ⟨e1, e2⟩ := HL4'.out hb3
          subst e1
          subst e2
          have db : decide ((b : Int) = 3) = false := by simp; omega
          have db2 : decide (b = 3) = false := by simp; omega
          have db3 : ((b : Int) == 3) = false := by simp; omega
          clear hb3
          go_wp2_with fail
          go_meet
          exact ⟨A1, c1, rfl, ho, hbw⟩
      case rest =>
        clear ho hrr hqr
        obtain ⟨A2, c2, rfl, ho2, hb2⟩ := hcut
        have hs2 := hb2.size
        have hqc := hq.below hb2 hq.lt
        have hBc := hB.trans (hb2.mono hB.size)
        by_cases hs : 1152921504606846976 < s
        · have HUF := hid (HUF0.out hs)
          have c0 : wc.cell? ⟨w.heap.size, 0, none⟩ = some (.int .i32 0) := hqc.cell 0
          have c1 : wc.cell? ⟨w.heap.size, 1, none⟩ = some (.int .i32 0) := hqc.cell 1
          have c2 : wc.cell? ⟨w.heap.size, 2, none⟩ = some (.int .i32 0) := hqc.cell 2
          have c3 : wc.cell? ⟨w.heap.size, 3, none⟩ = some (.int .i32 0) := hqc.cell 3
          have z0 := hqc.frozen 0
          have z1 := hqc.frozen 1
          have z2 := hqc.frozen 2
          have z3 := hqc.frozen 3
          go_wp2_with fail
          have G5 : Blk ((((wc.setCell ⟨w.heap.size, 0, none⟩ (.int .i32 0)).setCell ⟨w.heap.size, 1, none⟩ (.int .i32 0)).setCell ⟨w.heap.size, 2, none⟩ (.int .i32 0)).setCell ⟨w.heap.size, 3, none⟩ (.int .i32 0)) w.heap.size 23 #[.int .i32 0, .int .i32 0, .int .i32 0, .int .i32 0] := (((hqc.set_ 0 (.int .i32 0)).set_ 1 (.int .i32 0)).set_ 2 (.int .i32 0)).set_ 3 (.int .i32 0)
          have G7 : Below w.heap.size w ((((wc.setCell ⟨w.heap.size, 0, none⟩ (.int .i32 0)).setCell ⟨w.heap.size, 1, none⟩ (.int .i32 0)).setCell ⟨w.heap.size, 2, none⟩ (.int .i32 0)).setCell ⟨w.heap.size, 3, none⟩ (.int .i32 0)) := ((((hBc).setCell (by simp) _).setCell (by simp) _).setCell (by simp) _).setCell (by simp) _
          refine bodyPost_ret (results_q2 _ _ w.heap.size _ _ rfl rfl G5 rfl) rfl ⟨?_, G7⟩
          rw [show unV b p1 p2 p3 = #[.int .i32 0, .int .i32 0, .int .i32 0, .int .i32 0] by unfold unV; rw [HUF.out]; rfl, HUF.out]
          rfl
        · have HUT2 := hid (HUT.out hs)
          have HR := hid fun w => ref_Sqrt (1152921504606846976 - s) w (by omega) (by omega)
          have hrb := root_bd (1152921504606846976 - s) (by omega) (by omega)
          have hr30 : rootP (1152921504606846976 - s) ≤ 1073741824 := by
            have h5 := root_mono (n := 1152921504606846976 - s) (m := 1152921504606846976) (by omega) (by omega)
            have h6 : rootP 1152921504606846976 = 1073741824 := root_eq (by omega) (by omega) (by omega)
            omega
          have u64L : IntKind.u64.wrap (1152921504606846976 - s) = 1152921504606846976 - s := by simp [IntKind.wrap_u64]; omega
          generalize rootP (1152921504606846976 - s) = rr at *
          have ur : IntKind.i32.wrap rr = rr := IntWalk.i32_in _ (by omega)
          obtain ⟨g, rfl, hg1, hg2⟩ := ho2.pos (by omega)
          have r0 := ho2.cell (j := b) (by omega)
          have r1 := ho2.free b
          have k1 : (0 : Int) ≤ (b : Int) := by omega
          have k2 : (b : Int) < 4 := by omega
          clear HUT HUF0
          go_wp2_with fail
          refine (HR.out _).mono ?_
          rintro e w' ⟨rfl, rfl⟩
          go_upto_region 20 with fail
          have ho3 := ho2.set_ b rr
          rw [HLS'.out] at ho3
          replace hqc := hqc.far (p := ⟨g, b, none⟩) (by dsimp only; omega) (.int .i32 rr)
          replace hBc := hBc.setCell (p := ⟨g, b, none⟩) (by dsimp only; omega) (.int .i32 rr)
          clear r0 r1 ho2 hb2
          generalize wc.setCell ⟨g, b, none⟩ (.int .i32 rr) = V0 at *
          have v0 : V0.cell? ⟨g, 0, none⟩ = some (.int .i32 U0) := ho3.cell (by omega)
          have v1 : V0.cell? ⟨g, 1, none⟩ = some (.int .i32 U1) := ho3.cell (by omega)
          have v2 : V0.cell? ⟨g, 2, none⟩ = some (.int .i32 U2) := ho3.cell (by omega)
          have v3 : V0.cell? ⟨g, 3, none⟩ = some (.int .i32 U3) := ho3.cell (by omega)
          refine wp_region_noPanic ?_
          refine wp_region_held_drew (S := (fun w' : World => w'.cell? ⟨g, 0, none⟩ = some (.int .i32 U0) ∧ w'.cell? ⟨g, 1, none⟩ = some (.int .i32 U1) ∧ w'.cell? ⟨g, 2, none⟩ = some (.int .i32 U2) ∧ w'.cell? ⟨g, 3, none⟩ = some (.int .i32 U3))) (by kernel_rfl) ⟨v0, v1, v2, v3⟩ (fun hHeld => ?_)
          refine (show wpAnyH _ _ _ _ _ 15 _ _ _ from ?_)
          try (simp only [Act.put, List.setIfInBounds_toArray, List.set_cons_zero, List.set_cons_succ])
          replace hqc := hqc.drew
          replace ho3 := ho3.drew
          replace hBc := hBc.drew
          clear v0 v1 v2 v3
          generalize V0.drew = w7 at *
          refine tk 0 hHeld ?_
          refine tk 1 hHeld ?_
          refine tk 2 hHeld ?_
          refine tk 3 hHeld ?_
          refine tk 4 hHeld ?_
          refine tk 5 hHeld ?_
          refine tk 6 hHeld ?_
          refine tk 7 hHeld ?_
          refine tk 8 hHeld ?_
          refine tk 9 hHeld ?_
          refine tk 10 hHeld ?_
          refine tk 11 hHeld ?_
          refine tk 12 hHeld ?_
          refine rd1 13 (fun K hK => ?_)
          have d0 : w7.cell? ⟨w.heap.size, 0, none⟩ = some (.int .i32 0) := hqc.cell 0
          have z0 := hqc.frozen 0
          have d1 : w7.cell? ⟨w.heap.size, 1, none⟩ = some (.int .i32 0) := hqc.cell 1
          have z1 := hqc.frozen 1
          have d2 : w7.cell? ⟨w.heap.size, 2, none⟩ = some (.int .i32 0) := hqc.cell 2
          have z2 := hqc.frozen 2
          have d3 : w7.cell? ⟨w.heap.size, 3, none⟩ = some (.int .i32 0) := hqc.cell 3
          have z3 := hqc.frozen 3
          go_simp
          try go_wp2_with fail
          have o1 := ho3.setFar hqc (by decide) 0 (.int .i32 U0)
          have o2 := o1.setFar (hqc.set_ 0 (.int .i32 U0)) (by decide) 1 (.int .i32 U1)
          have o3 := o2.setFar ((hqc.set_ 0 (.int .i32 U0)).set_ 1 (.int .i32 U1)) (by decide) 2 (.int .i32 U2)
          have o4 := o3.setFar (((hqc.set_ 0 (.int .i32 U0)).set_ 1 (.int .i32 U1)).set_ 2 (.int .i32 U2)) (by decide) 3 (.int .i32 U3)
          have G5 : Blk ((((w7.setCell ⟨w.heap.size, 0, none⟩ (.int .i32 U0)).setCell ⟨w.heap.size, 1, none⟩ (.int .i32 U1)).setCell ⟨w.heap.size, 2, none⟩ (.int .i32 U2)).setCell ⟨w.heap.size, 3, none⟩ (.int .i32 U3)) w.heap.size 23 #[.int .i32 U0, .int .i32 U1, .int .i32 U2, .int .i32 U3] := (((hqc.set_ 0 (.int .i32 U0)).set_ 1 (.int .i32 U1)).set_ 2 (.int .i32 U2)).set_ 3 (.int .i32 U3)
          have G7 : Below w.heap.size w ((((w7.setCell ⟨w.heap.size, 0, none⟩ (.int .i32 U0)).setCell ⟨w.heap.size, 1, none⟩ (.int .i32 U1)).setCell ⟨w.heap.size, 2, none⟩ (.int .i32 U2)).setCell ⟨w.heap.size, 3, none⟩ (.int .i32 U3)) := ((((hBc).setCell (by simp) _).setCell (by simp) _).setCell (by simp) _).setCell (by simp) _
          clear d0 d1 d2 d3 z0 z1 z2 z3 o1 o2 o3 hqc hBc
          generalize (((w7.setCell ⟨w.heap.size, 0, none⟩ (.int .i32 U0)).setCell ⟨w.heap.size, 1, none⟩ (.int .i32 U1)).setCell ⟨w.heap.size, 2, none⟩ (.int .i32 U2)).setCell ⟨w.heap.size, 3, none⟩ (.int .i32 U3) = wf at *
          refine hK.out _ _ ⟨o4.cell (by omega), o4.cell (by omega), o4.cell (by omega), o4.cell (by omega)⟩ (fun hHeld => ?_)
          clear hK K
          try (simp only [Act.put, List.setIfInBounds_toArray, List.set_cons_zero, List.set_cons_succ])
          refine tk 14 hHeld ?_
          refine wpAnyH_done (by kernel_rfl) ?_ _
          refine NoPanic.normal ?_
          go_wp2_with fail
          refine bodyPost_ret (results_q2 _ _ w.heap.size _ _ rfl rfl G5 rfl) rfl ⟨?_, G7⟩
          rw [show unV b p1 p2 p3 = #[.int .i32 U0, .int .i32 U1, .int .i32 U2, .int .i32 U3] by unfold unV; rw [if_pos HUT2.out, HC.out], HUT2.out]
          rfl
end Go.Proofs.Ytfogjfmpgfcolaa
