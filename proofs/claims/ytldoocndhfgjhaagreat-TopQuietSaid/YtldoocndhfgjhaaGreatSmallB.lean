/- Chapter 12: the small functions; the three others. -/
import Derived.Test.YtldoocndhfgjhaaGreatLate
import Derived.Test.YtldoocndhfgjhaaGreatFixE
import Derived.Laws.EntriesVeiled
namespace Go.Proofs.YtldoocndhfgjhaaGreat
open Go.RowKit
set_option linter.unusedVariables false
set_option linter.unusedSimpArgs false
attribute [local go_sem] Oper.semAt_some

def numP (x : Int) : Int := 512 + max (-511) (min (overP (511 * x) 759250125) 511)
theorem num_bd (x : Int) : 1 ≤ numP x ∧ numP x ≤ 1023 := by unfold numP; omega
theorem s_number (x : Int) (w : World) (hx : -2147483648 ≤ x ∧ x ≤ 2147483648) :
    Calls Tryz.prog 174 #[.int .i64 x] w fun e w' => e = .returned (.int .u32 (numP x)) ∧ Below w.heap.size w w' := by
  have H := hid fun w => fx_Over (511 * x) 759250125 w (by unfold I64; omega) (by unfold I64; omega)
  have HN : Hid (numP x = 512 + max (-511) (min (overP (511 * x) 759250125) 511)) := rfl
  have nb := num_bd x
  rw [HN.out] at nb
  have u1 : IntKind.i64.wrap (511 * x) = 511 * x := IntWalk.i64_in _ (by omega)
  generalize overP (511 * x) 759250125 = v at *
  have u2 : IntKind.i64.wrap (512 + max (-511) (min v 511)) = 512 + max (-511) (min v 511) := IntWalk.i64_in _ (by omega)
  have u3 : IntKind.u32.wrap (512 + max (-511) (min v 511)) = 512 + max (-511) (min v 511) := by simp [IntKind.wrap_u32]; omega
  clear hx nb
  go_enter Tryz.func174, Tryz.ntmps174
  go_wp2_with fail
  refine (H.out _).mono ?_
  rintro e w' ⟨rfl, hb⟩
  go_wp2
  all_goals go_ret
  all_goals refine ⟨congrArg (fun z => Ending.returned (Value.int .u32 z)) (show _ = _ from ?_), hb⟩
  all_goals (rw [HN.out]; omega)
def widL : List Int := [2, 10, 10, 10]
theorem s_widths (w : World) :
    Calls Tryz.prog 176 #[] w fun e w' => e = .returned (.slice (some ⟨w.heap.size, 0, none⟩) 4 4) ∧ w' = w.alloc (.cells #[.int .i64 2, .int .i64 10, .int .i64 10, .int .i64 10] 3) := by
  go_enter Tryz.func176, Tryz.ntmps176
  go_wp2
  go_ret
  exact ⟨rfl, rfl⟩
theorem s_others (b : Nat) (w : World) :
    Calls Tryz.prog 173 #[.int .i64 b] w fun e w' => e = .returned (.func (.func 203) #[] #[.pointer (some ⟨w.heap.size, 0, none⟩)]) ∧ w' = w.alloc (.cells #[.int .i64 b] 3) := by
  have hmf : ∀ (fn : Fn) (first cap : Array Value) (w : World), (Instr.makeFunc fn first cap).run Tryz.prog w = .ok (.func fn first cap) w := fun _ _ _ _ => rfl
  go_enter Tryz.func173, Tryz.ntmps173
  go_wp2
  go_ret
  exact ⟨rfl, rfl⟩
/-- The k-th of those that are not b. -/
def oth (b k : Nat) : Nat := if k < b then k else k + 1
abbrev K3 := { k : Nat // k < 3 }
def encO (b : Nat) (k : K3) : Array Value := #[.int .i64 (k.1 : Int), .int .i64 (oth b k.1 : Int)]
def upK : Nat → List K3
  | 0 => []
  | 1 => [⟨0, by omega⟩]
  | 2 => [⟨0, by omega⟩, ⟨1, by omega⟩]
  | _ => [⟨0, by omega⟩, ⟨1, by omega⟩, ⟨2, by omega⟩]
theorem upK_succ (k : Nat) (h : k < 3) : upK (k + 1) = upK k ++ [⟨k, h⟩] := by
  match k, h with
  | 0, _ => rfl
  | 1, _ => rfl
  | 2, _ => rfl
theorem upK_length (k : Nat) (h : k ≤ 3) : (upK k).length = k := by
  match k, h with
  | 0, _ => rfl
  | 1, _ => rfl
  | 2, _ => rfl
  | 3, _ => rfl
def cntO (b j : Nat) : Nat := if j ≤ b then j else j - 1

set_option maxHeartbeats 2000000 in
theorem others_in (n : Nat) (l Bs b : Nat) (hb : b < 4) (J Jx : List K3 → World → Prop)
    (hY : ∀ pre x W, J pre W → pre.length < 3 → YieldAt Fence.wide (n - 1) Tryz.prog l (encO b x) W fun e W' =>
      (e = .returned (.bool true) ∧ J (pre ++ [x]) W' ∧ KeepsB Bs W W') ∨ (e = .returned (.bool false) ∧ Jx (pre ++ [x]) W'))
    (W : World) (hBs : Blk W Bs 3 #[.int .i64 b]) (h0 : J [] W) :
    CallsIn Fence.wide n Tryz.prog 203 #[.func (.yield l) #[] #[], .pointer (some ⟨Bs, 0, none⟩)] W fun e W' => (∃ v, e = .returned v) ∧
      ((∃ ys, ys = upK 3 ∧ J ys W') ∨ (∃ pre, (∃ k, k ≤ 3 ∧ pre = upK k) ∧ Jx pre W')) := by
  refine callsIn_of_wp Tryz.func203 rfl trivial ?_ rfl
  simp only [Tryz.ntmps203, List.size_toArray, List.length_cons, List.length_nil, Nat.reduceAdd, Nat.reduceSub, Array.replicate_succ, Array.replicate_zero, List.push_toArray, List.append_toArray, List.nil_append, List.cons_append]
  gi_wp2
  gi_loopw [3, 5] (fun kk i wr => ∃ j : Nat, j ≤ 4 ∧ i = .int .i64 j ∧ kk = .int .i64 (cntO b j : Nat) ∧ J (upK (cntO b j)) wr ∧ Blk wr Bs 3 #[.int .i64 b])
    (fun _ i _ => 4 - (intOf i).toNat)
  case atStart => exact ⟨0, Nat.zero_le _, rfl, by simp [cntO], by simpa [cntO, upK] using h0, hBs⟩
  case round =>
    obtain ⟨j, hj, rfl, rfl, hJs, hB⟩ := hrel
    have hc0 : wr.cell? ⟨Bs, 0, none⟩ = some (.int .i64 b) := hB.cell 0
    by_cases hlt : j < 4
    · have k2 : (j : Int) < 4 := by omega
      have ej : IntKind.i64.wrap ((j : Int) + 1) = ((j + 1 : Nat) : Int) := (IntWalk.i64_in _ (by omega)).trans (by omega)
      by_cases hjb : j = b
      · subst hjb
        have hc1 : cntO j j = cntO j (j + 1) := by simp [cntO]
        gi_wp2
        go_roundw
        case rel => exact ⟨j + 1, by omega, rfl, by rw [hc1], by rw [← hc1]; exact hJs, hB⟩
        case measure => simp [intOf]; omega
      · have hc3 : cntO b j < 3 := by unfold cntO; split <;> omega
        have hc4 : cntO b (j + 1) = cntO b j + 1 := by unfold cntO; split <;> split <;> omega
        have ho : oth b (cntO b j) = j := by unfold oth cntO; split <;> split <;> omega
        have hne : ((j : Int) == (b : Int)) = false := by simp; omega
        obtain ⟨fn, tmps, assign, body, hy, hR⟩ := hY _ ⟨cntO b j, hc3⟩ wr hJs (by rw [upK_length _ (by omega)]; exact hc3)
        simp only [encO, ho] at hy
        have ek : IntKind.i64.wrap ((cntO b j : Int) + 1) = ((cntO b j + 1 : Nat) : Int) := (IntWalk.i64_in _ (by omega)).trans (by omega)
        have HC4 := hid hc4
        clear hc4 ho
        generalize hgc : cntO b j = cc at *
        gi_wp2
        refine ⟨fun h => by simp [Fence.wide] at h, hR.mono ?_⟩
        rintro e W3 (⟨rfl, hJ3, hk3⟩ | ⟨rfl, hJx3⟩)
        · gi_wp2
          go_roundw
          case rel => exact ⟨j + 1, by omega, by go_num, by rw [HC4.out]; go_num, by rw [HC4.out, upK_succ cc hc3]; exact hJ3, hk3.trans hB⟩
          case measure => simp [intOf]; omega
        · gi_wp2
          refine bodyPost_ret (results_none rfl _ _ _) rfl ?_
          exact ⟨⟨_, rfl⟩, .inr ⟨_, ⟨cc + 1, by omega, (upK_succ cc hc3).symm⟩, hJx3⟩⟩
    · obtain rfl : j = 4 := by omega
      have hc1 : cntO b 4 = 3 := by unfold cntO; split <;> omega
      rw [hc1] at hJs
      gi_wp2
      go_end0
      exact ⟨⟨_, rfl⟩, .inl ⟨_, rfl, hJs⟩⟩
/-- The three others, as a range's function: whatever the body is. -/
theorem others_stops (n Bs b : Nat) (hb : b < 4) (w : World) (hBs : Blk w Bs 3 #[.int .i64 b]) :
    SeqStopsK Fence.wide n Tryz.prog 203 #[.pointer (some ⟨Bs, 0, none⟩)] (encO b) (KeepsB Bs) (fun ys => ys = upK 3) (fun pre => ∃ k, k ≤ 3 ∧ pre = upK k) 3 w := fun l J Jx W hW _ _ hY h0 =>
  others_in n l Bs b hb J Jx hY W (hBs.below hW hBs.lt) h0
end Go.Proofs.YtldoocndhfgjhaaGreat
namespace Go.Proofs.YtldoocndhfgjhaaGreat
open Go.RowKit
set_option linter.unusedVariables false
set_option linter.unusedSimpArgs false

def fStep (s : Nat × Int) (i : Nat) (x : Int) : Nat × Int := if s.2 < absP x then (i, absP x) else s
def fAt (l0 l1 l2 l3 : Int) : Nat → Nat × Int
  | 0 => (0, -1)
  | 1 => fStep (0, -1) 0 l0
  | 2 => fStep (fStep (0, -1) 0 l0) 1 l1
  | 3 => fStep (fStep (fStep (0, -1) 0 l0) 1 l1) 2 l2
  | _ => fStep (fStep (fStep (fStep (0, -1) 0 l0) 1 l1) 2 l2) 3 l3
def farI (l0 l1 l2 l3 : Int) : Nat := (fAt l0 l1 l2 l3 4).1
theorem fStep_lt (s : Nat × Int) (i : Nat) (x : Int) (hs : s.1 < 4) (hi : i < 4) : (fStep s i x).1 < 4 := by unfold fStep; split <;> assumption
theorem far_lt (l0 l1 l2 l3 : Int) : farI l0 l1 l2 l3 < 4 := fStep_lt _ _ _ (fStep_lt _ _ _ (fStep_lt _ _ _ (fStep_lt _ _ _ (by decide) (by decide)) (by decide)) (by decide)) (by decide)
theorem info32i : (Tryz.prog.info? 21).map (·.size) = some 1 := by kernel_rfl
theorem idx4 (j : Nat) (l0 l1 l2 l3 x : Int) (hj : j < 4) (hx : #[Value.int .i32 l0, Value.int .i32 l1, Value.int .i32 l2, Value.int .i32 l3][j]? = some (.int .i32 x)) (w : World) :
    (Instr.index 323 (.agg #[.int .i32 l0, .int .i32 l1, .int .i32 l2, .int .i32 l3]) (.int .i64 (j : Int))).run Tryz.prog w = .ok (.int .i32 x) w := by
  have hu : Tryz.prog.underlying 323 = some (.array 4 21) := Tryz.underlying323
  cases hq : Tryz.prog.info? 21 with
  | none => have := info32i; rw [hq] at this; cases this
  | some i =>
    have hs : i.size = 1 := by have := info32i; rw [hq] at this; simpa using this
    have ha : Tryz.prog.underlying 21 = some (.int .i32) := Tryz.underlying21
    have k1 : (j : Int) < 4 := by omega
    have hx2 : [Value.int .i32 l0, Value.int .i32 l1, Value.int .i32 l2, Value.int .i32 l3][j]? = some (.int .i32 x) := by simpa using hx
    simp [Instr.index, asIntOf, run_underlying hu, run_underlying ha, sizeOf, typeInfo, hq, hs, k1, part, isAgg, hj, hx2]
    exact (List.getElem?_eq_some_iff.1 hx2).2
set_option maxRecDepth 20000 in
set_option maxHeartbeats 4000000 in
theorem s_farthest (l0 l1 l2 l3 : Int) (w : World) (il0 : I32 l0) (il1 : I32 l1) (il2 : I32 l2) (il3 : I32 l3) :
    Calls Tryz.prog 171 #[.agg #[.int .i32 l0, .int .i32 l1, .int .i32 l2, .int .i32 l3]] w fun e w' => e = .returned (.int .i64 (farI l0 l1 l2 l3 : Nat)) ∧ Below w.heap.size w w' := by
  have hb : Below w.heap.size w (w.alloc (.cells #[.int .i32 l0, .int .i32 l1, .int .i32 l2, .int .i32 l3] 323)) := (Below.refl _ w).alloc (Nat.le_refl _) _
  have HB := hid hb
  clear hb
  have hix0 : ∀ w, (Instr.index 323 (.agg #[.int .i32 l0, .int .i32 l1, .int .i32 l2, .int .i32 l3]) (.int .i64 0)).run Tryz.prog w = .ok (.int .i32 l0) w := idx4 0 l0 l1 l2 l3 l0 (by omega) rfl
  have hix1 : ∀ w, (Instr.index 323 (.agg #[.int .i32 l0, .int .i32 l1, .int .i32 l2, .int .i32 l3]) (.int .i64 1)).run Tryz.prog w = .ok (.int .i32 l1) w := idx4 1 l0 l1 l2 l3 l1 (by omega) rfl
  have hix2 : ∀ w, (Instr.index 323 (.agg #[.int .i32 l0, .int .i32 l1, .int .i32 l2, .int .i32 l3]) (.int .i64 2)).run Tryz.prog w = .ok (.int .i32 l2) w := idx4 2 l0 l1 l2 l3 l2 (by omega) rfl
  have hix3 : ∀ w, (Instr.index 323 (.agg #[.int .i32 l0, .int .i32 l1, .int .i32 l2, .int .i32 l3]) (.int .i64 3)).run Tryz.prog w = .ok (.int .i32 l3) w := idx4 3 l0 l1 l2 l3 l3 (by omega) rfl
  go_enter Tryz.func171, Tryz.ntmps171
  go_wp2_with fail
  generalize w.alloc (.cells #[.int .i32 l0, .int .i32 l1, .int .i32 l2, .int .i32 l3] 323) = W0 at *
  go_loop [3, 4, 9] (fun vb vf vi => ∃ j : Nat, j ≤ 4 ∧ vi = .int .i64 j ∧ vb = .int .i64 ((fAt l0 l1 l2 l3 j).1 : Nat) ∧ vf = .int .i64 (fAt l0 l1 l2 l3 j).2) (fun _ _ vi => 4 - (intOf vi).toNat)
  case atStart => exact ⟨0, by omega, rfl, rfl, rfl⟩
  case round =>
    obtain ⟨j, hj, rfl, rfl, rfl⟩ := hrel
    obtain rfl | rfl | rfl | rfl | rfl : j = 0 ∨ j = 1 ∨ j = 2 ∨ j = 3 ∨ j = 4 := by omega
    · have HS : Hid (fAt l0 l1 l2 l3 1 = fStep (fAt l0 l1 l2 l3 0) 0 l0) := rfl
      obtain ⟨⟨B, D⟩, HD⟩ : ∃ s, Hid (fAt l0 l1 l2 l3 0 = s) := ⟨_, rfl⟩
      rw [HD.out] at HS ⊢
      have u0 : IntKind.i64.wrap l0 = l0 := IntWalk.i64_in _ (by unfold I32 at *; omega)
      have u1 : IntKind.i64.wrap (-l0) = -l0 := IntWalk.i64_in _ (by unfold I32 at *; omega)
      have u2 : wrap64 (-l0) = -l0 := IntWalk.wrap64_in _ (by unfold I32 at *; omega)
      have hm : max l0 (-l0) = absP l0 := by unfold absP; split <;> omega
      have hm2 : (if l0 < -l0 then -l0 else l0) = absP l0 := by unfold absP; split <;> split <;> omega
      by_cases g : D < absP l0
      · have HN : Hid (fAt l0 l1 l2 l3 1 = (0, absP l0)) := hid (by rw [HS.out]; simp only [fStep, if_pos g])
        clear HS HD
        simp only
        go_wp2
        go_round
        case rel => exact ⟨1, by omega, rfl, by rw [HN.out] <;> rfl, by rw [HN.out] <;> rfl⟩
        case measure => simp [intOf]
      · have HN : Hid (fAt l0 l1 l2 l3 1 = (B, D)) := hid (by rw [HS.out]; simp only [fStep, if_neg g])
        clear HS HD
        simp only
        go_wp2
        go_round
        case rel => exact ⟨1, by omega, rfl, by rw [HN.out] <;> rfl, by rw [HN.out] <;> rfl⟩
        case measure => simp [intOf]
    · have HS : Hid (fAt l0 l1 l2 l3 2 = fStep (fAt l0 l1 l2 l3 1) 1 l1) := rfl
      obtain ⟨⟨B, D⟩, HD⟩ : ∃ s, Hid (fAt l0 l1 l2 l3 1 = s) := ⟨_, rfl⟩
      rw [HD.out] at HS ⊢
      have u0 : IntKind.i64.wrap l1 = l1 := IntWalk.i64_in _ (by unfold I32 at *; omega)
      have u1 : IntKind.i64.wrap (-l1) = -l1 := IntWalk.i64_in _ (by unfold I32 at *; omega)
      have u2 : wrap64 (-l1) = -l1 := IntWalk.wrap64_in _ (by unfold I32 at *; omega)
      have hm : max l1 (-l1) = absP l1 := by unfold absP; split <;> omega
      have hm2 : (if l1 < -l1 then -l1 else l1) = absP l1 := by unfold absP; split <;> split <;> omega
      by_cases g : D < absP l1
      · have HN : Hid (fAt l0 l1 l2 l3 2 = (1, absP l1)) := hid (by rw [HS.out]; simp only [fStep, if_pos g])
        clear HS HD
        simp only
        go_wp2
        go_round
        case rel => exact ⟨2, by omega, rfl, by rw [HN.out] <;> rfl, by rw [HN.out] <;> rfl⟩
        case measure => simp [intOf]
      · have HN : Hid (fAt l0 l1 l2 l3 2 = (B, D)) := hid (by rw [HS.out]; simp only [fStep, if_neg g])
        clear HS HD
        simp only
        go_wp2
        go_round
        case rel => exact ⟨2, by omega, rfl, by rw [HN.out] <;> rfl, by rw [HN.out] <;> rfl⟩
        case measure => simp [intOf]
    · have HS : Hid (fAt l0 l1 l2 l3 3 = fStep (fAt l0 l1 l2 l3 2) 2 l2) := rfl
      obtain ⟨⟨B, D⟩, HD⟩ : ∃ s, Hid (fAt l0 l1 l2 l3 2 = s) := ⟨_, rfl⟩
      rw [HD.out] at HS ⊢
      have u0 : IntKind.i64.wrap l2 = l2 := IntWalk.i64_in _ (by unfold I32 at *; omega)
      have u1 : IntKind.i64.wrap (-l2) = -l2 := IntWalk.i64_in _ (by unfold I32 at *; omega)
      have u2 : wrap64 (-l2) = -l2 := IntWalk.wrap64_in _ (by unfold I32 at *; omega)
      have hm : max l2 (-l2) = absP l2 := by unfold absP; split <;> omega
      have hm2 : (if l2 < -l2 then -l2 else l2) = absP l2 := by unfold absP; split <;> split <;> omega
      by_cases g : D < absP l2
      · have HN : Hid (fAt l0 l1 l2 l3 3 = (2, absP l2)) := hid (by rw [HS.out]; simp only [fStep, if_pos g])
        clear HS HD
        simp only
        go_wp2
        go_round
        case rel => exact ⟨3, by omega, rfl, by rw [HN.out] <;> rfl, by rw [HN.out] <;> rfl⟩
        case measure => simp [intOf]
      · have HN : Hid (fAt l0 l1 l2 l3 3 = (B, D)) := hid (by rw [HS.out]; simp only [fStep, if_neg g])
        clear HS HD
        simp only
        go_wp2
        go_round
        case rel => exact ⟨3, by omega, rfl, by rw [HN.out] <;> rfl, by rw [HN.out] <;> rfl⟩
        case measure => simp [intOf]
    · have HS : Hid (fAt l0 l1 l2 l3 4 = fStep (fAt l0 l1 l2 l3 3) 3 l3) := rfl
      obtain ⟨⟨B, D⟩, HD⟩ : ∃ s, Hid (fAt l0 l1 l2 l3 3 = s) := ⟨_, rfl⟩
      rw [HD.out] at HS ⊢
      have u0 : IntKind.i64.wrap l3 = l3 := IntWalk.i64_in _ (by unfold I32 at *; omega)
      have u1 : IntKind.i64.wrap (-l3) = -l3 := IntWalk.i64_in _ (by unfold I32 at *; omega)
      have u2 : wrap64 (-l3) = -l3 := IntWalk.wrap64_in _ (by unfold I32 at *; omega)
      have hm : max l3 (-l3) = absP l3 := by unfold absP; split <;> omega
      have hm2 : (if l3 < -l3 then -l3 else l3) = absP l3 := by unfold absP; split <;> split <;> omega
      by_cases g : D < absP l3
      · have HN : Hid (fAt l0 l1 l2 l3 4 = (3, absP l3)) := hid (by rw [HS.out]; simp only [fStep, if_pos g])
        clear HS HD
        simp only
        go_wp2
        go_round
        case rel => exact ⟨4, by omega, rfl, by rw [HN.out] <;> rfl, by rw [HN.out] <;> rfl⟩
        case measure => simp [intOf]
      · have HN : Hid (fAt l0 l1 l2 l3 4 = (B, D)) := hid (by rw [HS.out]; simp only [fStep, if_neg g])
        clear HS HD
        simp only
        go_wp2
        go_round
        case rel => exact ⟨4, by omega, rfl, by rw [HN.out] <;> rfl, by rw [HN.out] <;> rfl⟩
        case measure => simp [intOf]
    · have HF : Hid ((fAt l0 l1 l2 l3 4).1 = farI l0 l1 l2 l3) := rfl
      generalize fAt l0 l1 l2 l3 4 = s at *
      go_wp2
      go_ret
      exact ⟨by rw [← HF.out]; rfl, HB.out⟩
def sgnX (lb x : Int) : Int := if lb < 0 then -x else x
theorem c_signed (gl gb b : Nat) (l0 l1 l2 l3 lb x : Int) (w : World) (hb : b < 4) (ix : I32 x) (hlb : w.cell? ⟨gl, b, none⟩ = some (.int .i32 lb)) (hB : Blk w gb 3 #[.int .i64 b]) :
    Calls Tryz.prog 172 #[.int .i32 x, .pointer (some ⟨gl, 0, none⟩), .pointer (some ⟨gb, 0, none⟩)] w fun e w' => e = .returned (.int .i64 (sgnX lb x)) ∧ w = w' := by
  have c0 : w.cell? ⟨gb, 0, none⟩ = some (.int .i64 b) := hB.cell 0
  have k1 : (0 : Int) ≤ (b : Int) := by omega
  have k2 : (b : Int) < 4 := by omega
  have u0 : IntKind.i64.wrap x = x := IntWalk.i64_in _ (by unfold I32 at *; omega)
  have u1 : IntKind.i64.wrap (-x) = -x := IntWalk.i64_in _ (by unfold I32 at *; omega)
  by_cases g : lb < 0
  · have HS : Hid (sgnX lb x = -x) := hid (if_pos g)
    go_enter Tryz.func172, Tryz.ntmps172
    go_wp2
    go_ret
    exact ⟨by rw [HS.out]; rfl, rfl⟩
  · have HS : Hid (sgnX lb x = x) := hid (if_neg g)
    go_enter Tryz.func172, Tryz.ntmps172
    go_wp2
    go_ret
    exact ⟨by rw [HS.out]; rfl, rfl⟩
end Go.Proofs.YtldoocndhfgjhaaGreat
