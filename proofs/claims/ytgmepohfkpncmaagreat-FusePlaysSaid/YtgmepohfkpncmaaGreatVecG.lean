/- Chapter 09: vectors: the products together; the length; doubled. -/
import Derived.Test.YtgmepohfkpncmaaGreatVecF
import Derived.Test.YtgmepohfkpncmaaGreatUnitB
namespace Go.Proofs.YtgmepohfkpncmaaGreat
open Go.RowKit
set_option linter.unusedVariables false
set_option linter.unusedSimpArgs false

theorem v_Length (a0 a1 a2 : Int) (w : World) (ia0 : I32 a0) (ia1 : I32 a1) (ia2 : I32 a2) :
    Calls Tryz.prog 17 #[.agg #[.int .i32 a0, .int .i32 a1, .int .i32 a2]] w fun e w' => e = .returned (.int .u32 (rootP (sqP [a0, a1, a2]))) ∧ Below w.heap.size w w' := by
  have HL := hid fun (g : Nat) w h => root_Length (some ⟨g, 0, none⟩) 3 3 [a0, a1, a2] w h (by unfold I32 at *; simp; omega) (by omega)
  have HP := hid fun w => v_parts a0 a1 a2 w
  generalize rootP (sqP [a0, a1, a2]) = r at *
  have hb : Below w.heap.size w (w.alloc (.cells #[.int .i32 a0, .int .i32 a1, .int .i32 a2] 25)) := (Below.refl _ w).alloc (Nat.le_refl _) _
  go_enter Tryz.func17, Tryz.ntmps17
  go_wp2_with fail
  generalize w.alloc (.cells #[.int .i32 a0, .int .i32 a1, .int .i32 a2] 25) = W0 at *
  refine (HP.out _).mono ?_
  rintro e w1 ⟨rfl, b1⟩
  replace hb := (hb.on b1).alloc (hb.on b1).size (.cells #[.int .i32 a0, .int .i32 a1, .int .i32 a2] 69)
  have hA := Blk.new w1 69 #[.int .i32 a0, .int .i32 a1, .int .i32 a2]
  go_wp2_with fail
  refine (HL.out _ _ (Row.blk hA rfl hA.lt)).mono ?_
  rintro e w' ⟨rfl, rfl⟩
  go_wp2
  go_ret
  exact ⟨rfl, hb⟩

def FarS (a0 a1 a2 I S : Int) : Prop := (I = 0 ∧ S = 0) ∨ (I = 1 ∧ S = farP [a0]) ∨ (I = 2 ∧ S = farP [a0, a1]) ∨ (I = 3 ∧ S = farP [a0, a1, a2])
def Up3 (a0 a1 a2 g0 g1 g2 I l0 l1 l2 : Int) : Prop :=
  (I = 0 ∧ a0 = l0 ∧ a1 = l1 ∧ a2 = l2) ∨ (I = 1 ∧ g0 = l0 ∧ a1 = l1 ∧ a2 = l2) ∨ (I = 2 ∧ g0 = l0 ∧ g1 = l1 ∧ a2 = l2) ∨ (I = 3 ∧ g0 = l0 ∧ g1 = l1 ∧ g2 = l2)
def Doubles (a0 a1 a2 : Int) (w : World) (e : Ending) (w' : World) : Prop := e = .returned (.agg #[.int .i32 (a0 * 2 ^ upN [a0, a1, a2]), .int .i32 (a1 * 2 ^ upN [a0, a1, a2]), .int .i32 (a2 * 2 ^ upN [a0, a1, a2])]) ∧ Below w.heap.size w w'
set_option maxHeartbeats 16000000 in
theorem v_doubled (a0 a1 a2 : Int) (w : World) (ia0 : I32 a0) (ia1 : I32 a1) (ia2 : I32 a2) (hz : 0 < farP [a0, a1, a2]) :
    Calls Tryz.prog 40 #[.agg #[.int .i32 a0, .int .i32 a1, .int .i32 a2]] w (Doubles a0 a1 a2 w) := by
  obtain ⟨n30, hG, hL1, hL2, hL3⟩ := up_facts [a0, a1, a2] (by unfold I32 at *; simp; omega) hz
  simp only [List.mem_cons, List.not_mem_nil, or_false, forall_eq_or_imp, forall_eq] at hG hL3
  obtain ⟨f0, f1, f2, _⟩ := farP_facts [a0, a1, a2] (by unfold I32 at *; simp; omega)
  have HS := hid (shN_facts _ hz)
  have HBD := hid (shN_bd (farP [a0, a1, a2]) ⟨hz, f1⟩)
  have HM := hid fun k => And.intro (mul_pow_bd a0 _ k (f2 a0 (by simp))) (And.intro (mul_pow_bd a1 _ k (f2 a1 (by simp))) (mul_pow_bd a2 _ k (f2 a2 (by simp))))
  have b1 := (farP_facts [a0] (by unfold I32 at *; simp; omega))
  have b2 := (farP_facts [a0, a1] (by unfold I32 at *; simp; omega))
  have c1 : 0 ≤ farP [a0] ∧ farP [a0] ≤ 2147483648 := ⟨b1.1, b1.2.1⟩
  have c2 : 0 ≤ farP [a0, a1] ∧ farP [a0, a1] ≤ 2147483648 := ⟨b2.1, b2.2.1⟩
  have e1 : Hid (farP [a0] = max (max 0 a0) (-a0)) := rfl
  have e2 : Hid (farP [a0, a1] = max (max (farP [a0]) a1) (-a1)) := rfl
  have e3 : Hid (farP [a0, a1, a2] = max (max (farP [a0, a1]) a2) (-a2)) := rfl
  clear b1 b2 f2 hL1 hL2 hL3
  have s0 : IntKind.i64.wrap a0 = a0 := IntWalk.i64_in _ (by unfold I32 at *; omega)
  have t0 : IntKind.i64.wrap (-a0) = -a0 := IntWalk.i64_in _ (by unfold I32 at *; omega)
  have X0 : ∀ w, (Instr.index 69 (.agg #[.int .i32 a0, .int .i32 a1, .int .i32 a2]) (.int .i64 0)).run Tryz.prog w = .ok (.int .i32 a0) w := fun _ => by kernel_rfl
  have s1 : IntKind.i64.wrap a1 = a1 := IntWalk.i64_in _ (by unfold I32 at *; omega)
  have t1 : IntKind.i64.wrap (-a1) = -a1 := IntWalk.i64_in _ (by unfold I32 at *; omega)
  have X1 : ∀ w, (Instr.index 69 (.agg #[.int .i32 a0, .int .i32 a1, .int .i32 a2]) (.int .i64 1)).run Tryz.prog w = .ok (.int .i32 a1) w := fun _ => by kernel_rfl
  have s2 : IntKind.i64.wrap a2 = a2 := IntWalk.i64_in _ (by unfold I32 at *; omega)
  have t2 : IntKind.i64.wrap (-a2) = -a2 := IntWalk.i64_in _ (by unfold I32 at *; omega)
  have X2 : ∀ w, (Instr.index 69 (.agg #[.int .i32 a0, .int .i32 a1, .int .i32 a2]) (.int .i64 2)).run Tryz.prog w = .ok (.int .i32 a2) w := fun _ => by kernel_rfl
  have hp : Blk ((w.alloc (.cells #[.int .i32 a0, .int .i32 a1, .int .i32 a2] 69)).alloc (.cells #[.int .i32 0, .int .i32 0, .int .i32 0] 69)) w.heap.size 69 #[.int .i32 a0, .int .i32 a1, .int .i32 a2] := (Blk.new w _ _).alloc _
  have hr : Blk ((w.alloc (.cells #[.int .i32 a0, .int .i32 a1, .int .i32 a2] 69)).alloc (.cells #[.int .i32 0, .int .i32 0, .int .i32 0] 69)) (w.heap.size + 1) 69 #[.int .i32 0, .int .i32 0, .int .i32 0] := by have := Blk.new (w.alloc (.cells #[.int .i32 a0, .int .i32 a1, .int .i32 a2] 69)) 69 #[.int .i32 0, .int .i32 0, .int .i32 0]; simpa using this
  have hb : Below w.heap.size w ((w.alloc (.cells #[.int .i32 a0, .int .i32 a1, .int .i32 a2] 69)).alloc (.cells #[.int .i32 0, .int .i32 0, .int .i32 0] 69)) := ((Below.refl _ w).alloc (Nat.le_refl _) _).alloc (by simp) _
  go_enter Tryz.func40, Tryz.ntmps40
  go_wp2
  generalize (w.alloc (.cells #[.int .i32 a0, .int .i32 a1, .int .i32 a2] 69)).alloc (.cells #[.int .i32 0, .int .i32 0, .int .i32 0] 69) = W0 at *
  go_loop [3, 8] (fun s i => ∃ I S : Int, i = .int .i64 I ∧ s = .int .i64 S ∧ Hid (FarS a0 a1 a2 I S)) (fun _ i => 3 - (intOf i).toNat)
  case atStart => exact ⟨0, 0, rfl, rfl, .inl ⟨rfl, rfl⟩⟩
  case round =>
    obtain ⟨I, S, rfl, rfl, hS⟩ := hrel
    rcases hS.out with ⟨rfl, rfl⟩ | ⟨rfl, rfl⟩ | ⟨rfl, rfl⟩ | ⟨rfl, rfl⟩
    · clear hS
      go_wp2
      go_round
      case rel => exact ⟨1, _, rfl, rfl, .inr (.inl ⟨rfl, (max3 _ _).trans e1.out.symm⟩)⟩
      case measure => simp [intOf]
    · clear hS
      go_wp2
      go_round
      case rel => exact ⟨2, _, rfl, rfl, .inr (.inr (.inl ⟨rfl, (max3 _ _).trans e2.out.symm⟩))⟩
      case measure => simp [intOf]
    · clear hS
      go_wp2
      go_round
      case rel => exact ⟨3, _, rfl, rfl, .inr (.inr (.inr (⟨rfl, (max3 _ _).trans e3.out.symm⟩)))⟩
      case measure => simp [intOf]
    · clear hS e1 e2 e3 c1 c2
      unfold upN at *
      generalize hF : farP [a0, a1, a2] = Fa at *
      have HF := hid hF
      clear hF
      generalize hN : shN Fa = N at *
      have HN := hid hN
      clear hN
      clear s0 s1 s2 t0 t1 t2 X0 X1 X2
      go_wp2
      go_loopw [3, 6] (fun s i6 wr => ∃ (k : Nat) (S l0 l1 l2 : Int), s = .int .i64 S ∧ k ≤ N ∧ Hid (S = Fa * 2 ^ k ∧ l0 = a0 * 2 ^ k ∧ l1 = a1 * 2 ^ k ∧ l2 = a2 * 2 ^ k) ∧ Blk wr w.heap.size 69 #[.int .i32 l0, .int .i32 l1, .int .i32 l2] ∧ Blk wr (w.heap.size + 1) 69 #[.int .i32 0, .int .i32 0, .int .i32 0] ∧ Below w.heap.size w wr) (fun s _ _ => (4294967296 - intOf s).toNat)
      case atStart => exact ⟨0, Fa, a0, a1, a2, rfl, by omega, ⟨by simp, by simp, by simp, by simp⟩, hp, hr, hb⟩
      case round =>
        clear hp hr hb
        obtain ⟨k, S, l0, l1, l2, rfl, hk, hl, hp, hr, hb⟩ := hrel
        have hl2 := hl.out
        have hS2 := HS.out
        have hB2 := HBD.out k hk
        have hM2 := HM.out k
        obtain ⟨m0, m1, m2⟩ := hM2
        rw [← hl2.1] at hB2
        rw [← hl2.1, ← hl2.2.1] at m0
        rw [← hl2.1, ← hl2.2.2.1] at m1
        rw [← hl2.1, ← hl2.2.2.2] at m2
        have hSp : 0 < S := by have := Int.mul_pos hz (show (0 : Int) < 2 ^ k from Int.pow_pos (by omega)); omega
        by_cases g : k < N
        · have hlt := hS2.2.2 k g
          rw [← hl2.1] at hlt
          have dd : decide (S < 1073741824) = true := by simpa using hlt
          have us : IntKind.i64.wrap (S * 2) = S * 2 := IntWalk.i64_in _ (by omega)
          have u0 : IntKind.i32.wrap (l0 * 2) = l0 * 2 := IntWalk.i32_in _ (by omega)
          have u1 : IntKind.i32.wrap (l1 * 2) = l1 * 2 := IntWalk.i32_in _ (by omega)
          have u2 : IntKind.i32.wrap (l2 * 2) = l2 * 2 := IntWalk.i32_in _ (by omega)
          have ms : (4294967296 - S * 2).toNat < (4294967296 - S).toNat := by omega
          have HL2 : Hid (S * 2 = Fa * 2 ^ (k + 1) ∧ l0 * 2 = a0 * 2 ^ (k + 1) ∧ l1 * 2 = a1 * 2 ^ (k + 1) ∧ l2 * 2 = a2 * 2 ^ (k + 1)) := hid (by
            obtain ⟨e0, e1, e2, e3⟩ := hl2
            rw [e0, e1, e2, e3]
            simp only [Int.pow_succ, Int.mul_assoc, and_self])
          clear hl2 hS2 hB2 m0 m1 m2 hl hlt
          go_wp2
          go_loopw [23] (fun i wr => ∃ I q0 q1 q2 : Int, i = .int .i64 I ∧ Hid (Up3 l0 l1 l2 (l0 * 2) (l1 * 2) (l2 * 2) I q0 q1 q2) ∧ Blk wr w.heap.size 69 #[.int .i32 q0, .int .i32 q1, .int .i32 q2] ∧ Blk wr (w.heap.size + 1) 69 #[.int .i32 0, .int .i32 0, .int .i32 0] ∧ Below w.heap.size w wr) (fun i _ => 3 - (intOf i).toNat)
          case atStart => exact ⟨0, l0, l1, l2, rfl, .inl ⟨rfl, rfl, rfl, rfl⟩, hp, hr, hb⟩
          case round =>
            clear hp hr hb
            obtain ⟨I, q0, q1, q2, rfl, hq, hp, hr, hb⟩ := hrel
            rcases hq.out with ⟨rfl, rfl, rfl, rfl⟩ | ⟨rfl, rfl, rfl, rfl⟩ | ⟨rfl, rfl, rfl, rfl⟩ | ⟨rfl, rfl, rfl, rfl⟩
            · have c0 : wr.cell? ⟨w.heap.size, 0, none⟩ = some (.int .i32 l0) := hp.cell 0
              have z0 := hp.frozen 0
              clear hq
              go_wp2
              go_round
              case rel => exact ⟨1, l0 * 2, l1, l2, rfl, .inr (.inl ⟨rfl, rfl, rfl, rfl⟩), hp.set_ 0 _, hr.fr (w.heap.size) 0 (by omega) _, hb.setCell (p := ⟨w.heap.size, 0, none⟩) (Nat.le_refl _) _⟩
              case measure => simp [intOf]
            · have c0 : wr.cell? ⟨w.heap.size, 1, none⟩ = some (.int .i32 l1) := hp.cell 1
              have z0 := hp.frozen 1
              clear hq
              go_wp2
              go_round
              case rel => exact ⟨2, l0 * 2, l1 * 2, l2, rfl, .inr (.inr (.inl ⟨rfl, rfl, rfl, rfl⟩)), hp.set_ 1 _, hr.fr (w.heap.size) 1 (by omega) _, hb.setCell (p := ⟨w.heap.size, 1, none⟩) (Nat.le_refl _) _⟩
              case measure => simp [intOf]
            · have c0 : wr.cell? ⟨w.heap.size, 2, none⟩ = some (.int .i32 l2) := hp.cell 2
              have z0 := hp.frozen 2
              clear hq
              go_wp2
              go_round
              case rel => exact ⟨3, l0 * 2, l1 * 2, l2 * 2, rfl, .inr (.inr (.inr (⟨rfl, rfl, rfl, rfl⟩))), hp.set_ 2 _, hr.fr (w.heap.size) 2 (by omega) _, hb.setCell (p := ⟨w.heap.size, 2, none⟩) (Nat.le_refl _) _⟩
              case measure => simp [intOf]
            · clear hq
              go_wp2
              go_round
              case rel => exact ⟨k + 1, S * 2, l0 * 2, l1 * 2, l2 * 2, rfl, by omega, HL2, hp, hr, hb⟩
              case measure => simpa [intOf] using ms
        · obtain rfl : N = k := by omega
          have dd : decide (S < 1073741824) = false := by have := hS2.2.1; rw [← hl2.1] at this; simp; omega
          obtain ⟨-, rfl, rfl, rfl⟩ := hl2
          have HX : Hid (shN (farP [a0, a1, a2]) = N) := hid (by rw [HF.out]; exact HN.out)
          clear hS2 hB2 m0 m1 m2 hl
          have c0 : wr.cell? ⟨w.heap.size, 0, none⟩ = some (.int .i32 (a0 * 2 ^ N)) := hp.cell 0
          have d0 : wr.cell? ⟨w.heap.size + 1, 0, none⟩ = some (.int .i32 0) := hr.cell 0
          have z0 := hr.frozen 0
          have c1 : wr.cell? ⟨w.heap.size, 1, none⟩ = some (.int .i32 (a1 * 2 ^ N)) := hp.cell 1
          have d1 : wr.cell? ⟨w.heap.size + 1, 1, none⟩ = some (.int .i32 0) := hr.cell 1
          have z1 := hr.frozen 1
          have c2 : wr.cell? ⟨w.heap.size, 2, none⟩ = some (.int .i32 (a2 * 2 ^ N)) := hp.cell 2
          have d2 : wr.cell? ⟨w.heap.size + 1, 2, none⟩ = some (.int .i32 0) := hr.cell 2
          have z2 := hr.frozen 2
          have hf : Blk (((wr.setCell ⟨w.heap.size + 1, 0, none⟩ (.int .i32 (a0 * 2 ^ N))).setCell ⟨w.heap.size + 1, 1, none⟩ (.int .i32 (a1 * 2 ^ N))).setCell ⟨w.heap.size + 1, 2, none⟩ (.int .i32 (a2 * 2 ^ N))) (w.heap.size + 1) 69 #[.int .i32 (a0 * 2 ^ N), .int .i32 (a1 * 2 ^ N), .int .i32 (a2 * 2 ^ N)] := (((hr.set_ 0 (.int .i32 (a0 * 2 ^ N))).set_ 1 (.int .i32 (a1 * 2 ^ N))).set_ 2 (.int .i32 (a2 * 2 ^ N)))
          have hbf : Below w.heap.size w (((wr.setCell ⟨w.heap.size + 1, 0, none⟩ (.int .i32 (a0 * 2 ^ N))).setCell ⟨w.heap.size + 1, 1, none⟩ (.int .i32 (a1 * 2 ^ N))).setCell ⟨w.heap.size + 1, 2, none⟩ (.int .i32 (a2 * 2 ^ N))) := (((hb.sc (w.heap.size + 1) 0 (by omega) (.int .i32 (a0 * 2 ^ N))).sc (w.heap.size + 1) 1 (by omega) (.int .i32 (a1 * 2 ^ N))).sc (w.heap.size + 1) 2 (by omega) (.int .i32 (a2 * 2 ^ N)))
          go_wp2
          generalize (((wr.setCell ⟨w.heap.size + 1, 0, none⟩ (.int .i32 (a0 * 2 ^ N))).setCell ⟨w.heap.size + 1, 1, none⟩ (.int .i32 (a1 * 2 ^ N))).setCell ⟨w.heap.size + 1, 2, none⟩ (.int .i32 (a2 * 2 ^ N))) = wf at *
          have f0 : wf.cell? ⟨w.heap.size + 1, 0, none⟩ = some (.int .i32 (a0 * 2 ^ N)) := hf.cell 0
          have f1 : wf.cell? ⟨w.heap.size + 1, 1, none⟩ = some (.int .i32 (a1 * 2 ^ N)) := hf.cell 1
          have f2 : wf.cell? ⟨w.heap.size + 1, 2, none⟩ = some (.int .i32 (a2 * 2 ^ N)) := hf.cell 2
          have HQ : Hid (Doubles a0 a1 a2 w (.returned (.agg #[.int .i32 (a0 * 2 ^ N), .int .i32 (a1 * 2 ^ N), .int .i32 (a2 * 2 ^ N)])) wf) := hid ⟨by unfold upN; rw [HX.out], hbf⟩
          generalize a0 * 2 ^ N = y0 at *
          generalize a1 * 2 ^ N = y1 at *
          generalize a2 * 2 ^ N = y2 at *
          simp [bodyPost, results, Tryz.results40, go_sem, f0, f1, f2]
          exact HQ.out
end Go.Proofs.YtgmepohfkpncmaaGreat
