/- Chapter 12: the small functions; the three others. -/
import Derived.Test.YtgmepohfkpncmaaRng
import Derived.Test.YtgmepohfkpncmaaFixE
import Derived.Laws.EntriesVeiled
namespace Go.Proofs.Ytgmepohfkpncmaa
open Go.RowKit
set_option linter.unusedVariables false
set_option linter.unusedSimpArgs false
attribute [local go_sem] Oper.semAt_some

def numP (x : Int) : Int := 512 + max (-511) (min (overP (511 * x) 759250125) 511)
theorem num_bd (x : Int) : 1 ≤ numP x ∧ numP x ≤ 1023 := by unfold numP; omega
theorem s_number (x : Int) (w : World) (hx : -2147483648 ≤ x ∧ x ≤ 2147483648) :
    Calls Try.prog 33 #[.int .i64 x] w fun e w' => e = .returned (.int .u32 (numP x)) ∧ Below w.heap.size w w' := by
  have H := hid fun w => fx_Over (511 * x) 759250125 w (by unfold I64; omega) (by unfold I64; omega)
  have HN : Hid (numP x = 512 + max (-511) (min (overP (511 * x) 759250125) 511)) := rfl
  have nb := num_bd x
  rw [HN.out] at nb
  have u1 : IntKind.i64.wrap (511 * x) = 511 * x := IntWalk.i64_in _ (by omega)
  generalize overP (511 * x) 759250125 = v at *
  have u2 : IntKind.i64.wrap (512 + max (-511) (min v 511)) = 512 + max (-511) (min v 511) := IntWalk.i64_in _ (by omega)
  have u3 : IntKind.u32.wrap (512 + max (-511) (min v 511)) = 512 + max (-511) (min v 511) := by simp [IntKind.wrap_u32]; omega
  clear hx nb
  go_enter Try.func33, Try.ntmps33
  go_wp2_with fail
  refine (H.out _).mono ?_
  rintro e w' ⟨rfl, hb⟩
  go_wp2
  all_goals go_ret
  all_goals refine ⟨congrArg (fun z => Ending.returned (Value.int .u32 z)) (show _ = _ from ?_), hb⟩
  all_goals (rw [HN.out]; omega)
def partP (n : Int) : Int := overP ((n - 512) * 759250125) 511
def widL : List Int := [2, 10, 10, 10]
theorem s_widths (w : World) :
    Calls Try.prog 35 #[] w fun e w' => e = .returned (.slice (some ⟨w.heap.size, 0, none⟩) 4 4) ∧ w' = w.alloc (.cells #[.int .i64 2, .int .i64 10, .int .i64 10, .int .i64 10] 3) := by
  go_enter Try.func35, Try.ntmps35
  go_wp2
  go_ret
  exact ⟨rfl, rfl⟩
theorem s_others (b : Nat) (w : World) :
    Calls Try.prog 32 #[.int .i64 b] w fun e w' => e = .returned (.func (.func 53) #[] #[.pointer (some ⟨w.heap.size, 0, none⟩)]) ∧ w' = w.alloc (.cells #[.int .i64 b] 3) := by
  have hmf : ∀ (fn : Fn) (first cap : Array Value) (w : World), (Instr.makeFunc fn first cap).run Try.prog w = .ok (.func fn first cap) w := fun _ _ _ _ => rfl
  go_enter Try.func32, Try.ntmps32
  go_wp2
  go_ret
  exact ⟨rfl, rfl⟩
/-- The k-th of those that are not b. -/
def oth (b k : Nat) : Nat := if k < b then k else k + 1
abbrev K3 := { k : Nat // k < 3 }
def encO (b : Nat) (k : K3) : Array Value := #[.int .i64 (k.1 : Int), .int .i64 (oth b k.1 : Int)]
def upK : Nat → List K3
  | 0 => []
  | 1 => [⟨0, by omega⟩]
  | 2 => [⟨0, by omega⟩, ⟨1, by omega⟩]
  | _ => [⟨0, by omega⟩, ⟨1, by omega⟩, ⟨2, by omega⟩]
theorem upK_succ (k : Nat) (h : k < 3) : upK (k + 1) = upK k ++ [⟨k, h⟩] := by
  match k, h with
  | 0, _ => rfl
  | 1, _ => rfl
  | 2, _ => rfl
theorem upK_length (k : Nat) (h : k ≤ 3) : (upK k).length = k := by
  match k, h with
  | 0, _ => rfl
  | 1, _ => rfl
  | 2, _ => rfl
  | 3, _ => rfl
def cntO (b j : Nat) : Nat := if j ≤ b then j else j - 1

set_option maxHeartbeats 2000000 in
theorem others_in (n : Nat) (l Bs b : Nat) (hb : b < 4) (J Jx : List K3 → World → Prop)
    (hY : ∀ pre x W, J pre W → pre.length < 3 → YieldAt Fence.wide (n - 1) Try.prog l (encO b x) W fun e W' =>
      (e = .returned (.bool true) ∧ J (pre ++ [x]) W' ∧ KeepsB Bs W W') ∨ (e = .returned (.bool false) ∧ Jx (pre ++ [x]) W'))
    (W : World) (hBs : Blk W Bs 3 #[.int .i64 b]) (h0 : J [] W) :
    CallsIn Fence.wide n Try.prog 53 #[.func (.yield l) #[] #[], .pointer (some ⟨Bs, 0, none⟩)] W fun e W' => (∃ v, e = .returned v) ∧
      ((∃ ys, ys = upK 3 ∧ J ys W') ∨ (∃ pre, (∃ k, k ≤ 3 ∧ pre = upK k) ∧ Jx pre W')) := by
  refine callsIn_of_wp Try.func53 rfl trivial ?_ rfl
  simp only [Try.ntmps53, List.size_toArray, List.length_cons, List.length_nil, Nat.reduceAdd, Nat.reduceSub, Array.replicate_succ, Array.replicate_zero, List.push_toArray, List.append_toArray, List.nil_append, List.cons_append]
  gi_wp2
  gi_loopw [3, 5] (fun kk i wr => ∃ j : Nat, j ≤ 4 ∧ i = .int .i64 j ∧ kk = .int .i64 (cntO b j : Nat) ∧ J (upK (cntO b j)) wr ∧ Blk wr Bs 3 #[.int .i64 b])
    (fun _ i _ => 4 - (intOf i).toNat)
  case atStart => exact ⟨0, Nat.zero_le _, rfl, by simp [cntO], by simpa [cntO, upK] using h0, hBs⟩
  case round =>
    obtain ⟨j, hj, rfl, rfl, hJs, hB⟩ := hrel
    have hc0 : wr.cell? ⟨Bs, 0, none⟩ = some (.int .i64 b) := hB.cell 0
    by_cases hlt : j < 4
    · have k2 : (j : Int) < 4 := by omega
      have ej : IntKind.i64.wrap ((j : Int) + 1) = ((j + 1 : Nat) : Int) := (IntWalk.i64_in _ (by omega)).trans (by omega)
      by_cases hjb : j = b
      · subst hjb
        have hc1 : cntO j j = cntO j (j + 1) := by simp [cntO]
        gi_wp2
        go_roundw
        case rel => exact ⟨j + 1, by omega, rfl, by rw [hc1], by rw [← hc1]; exact hJs, hB⟩
        case measure => simp [intOf]; omega
      · have hc3 : cntO b j < 3 := by unfold cntO; split <;> omega
        have hc4 : cntO b (j + 1) = cntO b j + 1 := by unfold cntO; split <;> split <;> omega
        have ho : oth b (cntO b j) = j := by unfold oth cntO; split <;> split <;> omega
        have hne : ((j : Int) == (b : Int)) = false := by simp; omega
        obtain ⟨fn, tmps, assign, body, hy, hR⟩ := hY _ ⟨cntO b j, hc3⟩ wr hJs (by rw [upK_length _ (by omega)]; exact hc3)
        simp only [encO, ho] at hy
        have ek : IntKind.i64.wrap ((cntO b j : Int) + 1) = ((cntO b j + 1 : Nat) : Int) := (IntWalk.i64_in _ (by omega)).trans (by omega)
        have HC4 := hid hc4
        clear hc4 ho
        generalize hgc : cntO b j = cc at *
        gi_wp2
        refine ⟨fun h => by simp [Fence.wide] at h, hR.mono ?_⟩
        rintro e W3 (⟨rfl, hJ3, hk3⟩ | ⟨rfl, hJx3⟩)
        · gi_wp2
          go_roundw
          case rel => exact ⟨j + 1, by omega, by go_num, by rw [HC4.out]; go_num, by rw [HC4.out, upK_succ cc hc3]; exact hJ3, hk3.trans hB⟩
          case measure => simp [intOf]; omega
        · gi_wp2
          refine bodyPost_ret (results_none rfl _ _ _) rfl ?_
          exact ⟨⟨_, rfl⟩, .inr ⟨_, ⟨cc + 1, by omega, (upK_succ cc hc3).symm⟩, hJx3⟩⟩
    · obtain rfl : j = 4 := by omega
      have hc1 : cntO b 4 = 3 := by unfold cntO; split <;> omega
      rw [hc1] at hJs
      gi_wp2
      go_end0
      exact ⟨⟨_, rfl⟩, .inl ⟨_, rfl, hJs⟩⟩
/-- The three others, as a range's function: whatever the body is. -/
theorem others_stops (n Bs b : Nat) (hb : b < 4) (w : World) (hBs : Blk w Bs 3 #[.int .i64 b]) :
    SeqStopsK Fence.wide n Try.prog 53 #[.pointer (some ⟨Bs, 0, none⟩)] (encO b) (KeepsB Bs) (fun ys => ys = upK 3) (fun pre => ∃ k, k ≤ 3 ∧ pre = upK k) 3 w := fun l J Jx W hW _ _ hY h0 =>
  others_in n l Bs b hb J Jx hY W (hBs.below hW hBs.lt) h0
end Go.Proofs.Ytgmepohfkpncmaa
