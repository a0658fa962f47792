/- Chapter 24: pairs of digits. -/
import Derived.Test.YtbhfidneijogfaaClkF
import Derived.Test.YtbhfidneijogfaaRngB
namespace Go.Proofs.Ytbhfidneijogfaa
open Go.RowKit
set_option linter.unusedVariables false
set_option linter.unusedSimpArgs false
attribute [local go_sem] Oper.semAt_some

def digP (c : Nat) : Int := IntKind.u8.wrap ((c : Int) - 48)
def byteP (s : ByteArray) (k : Nat) : Nat := (s.data.toList[k]?.getD 0).toNat
def pairAt (s : ByteArray) (k : Nat) : Int × Bool := (10 * digP (byteP s (2 * k)) + digP (byteP s (2 * k + 1)), decide (digP (byteP s (2 * k)) < 10) && decide (digP (byteP s (2 * k + 1)) < 10))
def pairsL (s : ByteArray) : List (Int × Bool) := (List.range (s.size / 2)).map (pairAt s)
def encP (x : Int × Bool) : Array Value := #[.int .i64 x.1, .bool x.2]
def cutS (s : ByteArray) (k : Nat) : ByteArray := s.extract k s.size
theorem cutS_size (s : ByteArray) (k : Nat) : (cutS s k).size = s.size - k := by simp [cutS]
theorem cutS_cut (s : ByteArray) (k m : Nat) : (cutS s k).extract m (cutS s k).size = cutS s (k + m) := by
  unfold cutS
  rw [ByteArray.extract_extract]
  congr 1
  simp
  omega
theorem cutS_at (s : ByteArray) (k i : Nat) (h : i < (cutS s k).size) : ((cutS s k)[i]'h).toNat = byteP s (k + i) := by
  unfold byteP
  have h2 : k + i < s.size := by rw [cutS_size] at h; omega
  have h3 : s.data.toList[k + i]? = some (s[k + i]'h2) := by
    rw [List.getElem?_eq_getElem (by simpa using h2)]
    simp [ByteArray.getElem_eq_getElem_data]
  rw [h3]
  exact congrArg UInt8.toNat (ByteArray.getElem_extract h)
theorem pairsL_take (s : ByteArray) (j : Nat) (h : j < s.size / 2) : (pairsL s).take (j + 1) = (pairsL s).take j ++ [pairAt s j] := by
  unfold pairsL
  rw [List.take_succ_eq_append_getElem (by simpa using h)]
  simp
theorem pairsL_len (s : ByteArray) : (pairsL s).length = s.size / 2 := by simp [pairsL]
def lenAt (b : Nat) (w : World) : Nat := match w.cell? ⟨b, 0, none⟩ with | some (.string s) => s.size | _ => 0
theorem lenAt_is {b : Nat} {w : World} {t : TypeId} {s : ByteArray} (h : Blk w b t #[.string s]) : lenAt b w = s.size := by
  have c0 : w.cell? ⟨b, 0, none⟩ = some (.string s) := h.cell 0
  unfold lenAt
  rw [c0]
theorem digP_bd (c : Nat) : 0 ≤ digP c ∧ digP c ≤ 255 := by unfold digP; rw [IntKind.wrap_u8]; omega

set_option maxHeartbeats 2000000 in
theorem pairs_in (l b : Nat) (s : ByteArray) (hs : s.size ≤ 100) (J Jx : List (Int × Bool) → World → Prop) (W : World) (hB : Blk W b 9 #[.string s]) (hA : AbidesFrom W.heap.size J) (hC : ∀ pre V v, J pre V → J pre (V.setCell ⟨b, 0, none⟩ v))
    (hY : ∀ pre x V, J pre V → pre.length < s.size / 2 → YieldAt Fence.wide 1 Try.prog l (encP x) V fun e V' => (e = .returned (.bool true) ∧ J (pre ++ [x]) V' ∧ KeepsB b V V') ∨ (e = .returned (.bool false) ∧ Jx (pre ++ [x]) V'))
    (h0 : J [] W) :
    CallsIn Fence.wide 2 Try.prog 82 #[.func (.yield l) #[] #[], .pointer (some ⟨b, 0, none⟩)] W fun e W' => (∃ v, e = .returned v) ∧
      ((∃ ys, ys = pairsL s ∧ J ys W') ∨ (∃ pre, (∃ k, k ≤ s.size / 2 ∧ pre = (pairsL s).take k) ∧ Jx pre W')) := by
  refine callsIn_of_wp Try.func82 rfl trivial ?_ rfl
  simp only [Try.ntmps82, List.size_toArray, List.length_cons, List.length_nil, Nat.reduceAdd, Nat.reduceSub, Array.replicate_succ, Array.replicate_zero, List.push_toArray, List.append_toArray, List.nil_append, List.cons_append]
  gi_wp2
  gi_loopw [] (fun wr => ∃ j : Nat, j ≤ s.size / 2 ∧ J ((pairsL s).take j) wr ∧ Blk wr b 9 #[.string (cutS s (2 * j))])
    (fun wr => lenAt b wr)
  case atStart => exact ⟨0, Nat.zero_le _, by simpa using h0, by rw [show cutS s (2 * 0) = s by simp [cutS]]; exact hB⟩
  case round =>
    obtain ⟨j, hj, hJ, hBr⟩ := hrel
    have c0 : wr.cell? ⟨b, 0, none⟩ = some (.string (cutS s (2 * j))) := hBr.cell 0
    have hz : (cutS s (2 * j)).size = s.size - 2 * j := cutS_size s (2 * j)
    have HLA := hid (lenAt_is hBr)
    by_cases hlt : j < s.size / 2
    · have p0 : 0 < (cutS s (2 * j)).size := by omega
      have p1 : 1 < (cutS s (2 * j)).size := by omega
      have p2 : 2 ≤ (cutS s (2 * j)).size := by omega
      have p3 : (cutS s (2 * j)).size ≤ 100 := by omega
      have HPA : Hid (pairAt s j = (10 * digP (byteP s (2 * j)) + digP (byteP s (2 * j + 1)), decide (digP (byteP s (2 * j)) < 10) && decide (digP (byteP s (2 * j + 1)) < 10))) := rfl
      have hX0 := cutS_at s (2 * j) 0 p0
      have hX1 := cutS_at s (2 * j) 1 p1
      rw [Nat.add_zero] at hX0
      have b0 := digP_bd (byteP s (2 * j))
      have b1 := digP_bd (byteP s (2 * j + 1))
      have hD0 : IntKind.u8.wrap ((byteP s (2 * j) : Int) - 48) = digP (byteP s (2 * j)) := rfl
      have hD1 : IntKind.u8.wrap ((byteP s (2 * j + 1) : Int) - 48) = digP (byteP s (2 * j + 1)) := rfl
      have HN : Hid ((cutS s (2 * j)).extract 2 (cutS s (2 * j)).size = cutS s (2 * (j + 1))) := hid (by rw [cutS_cut, show 2 * j + 2 = 2 * (j + 1) by omega])
      have HNZ : Hid ((cutS s (2 * (j + 1))).size < (cutS s (2 * j)).size) := hid (by rw [cutS_size, cutS_size]; omega)
      have HT := hid (pairsL_take s j hlt)
      have HLN : Hid (((pairsL s).take j).length = j) := hid (by rw [List.length_take, pairsL_len]; omega)
      clear hz
      generalize digP (byteP s (2 * j)) = D0 at *
      generalize digP (byteP s (2 * j + 1)) = D1 at *
      generalize byteP s (2 * j) = X0 at *
      generalize byteP s (2 * j + 1) = X1 at *
      generalize cutS s (2 * j) = S at *
      gi_wp2_with fail
      refine wpIn_wide.2 ?_
      refine wp_region_noPanic ?_
      refine wp_region_held_drew (S := (fun w' : World => w'.cell? ⟨b, 0, none⟩ = some (.string S))) (by kernel_rfl) c0 (fun hHeld => ?_)
      refine (show wpAnyH _ _ _ _ _ 8 _ _ _ from ?_)
      try (simp only [Act.put, List.setIfInBounds_toArray, List.set_cons_zero, List.set_cons_succ])
      replace hBr := hBr.drew
      replace hJ : J ((pairsL s).take j) wr.drew := hA _ _ _ none hJ ⟨rfl, rfl, rfl, Nat.le_refl _, fun _ _ _ => rfl⟩ (fun r e => by cases e)
      clear c0
      generalize wr.drew = V at *
      refine tk 0 hHeld ?_
      refine tk 1 hHeld ?_
      refine tk 2 hHeld ?_
      refine tk 3 hHeld ?_
      refine tk 4 hHeld ?_
      refine tk 5 hHeld ?_
      refine tk 6 hHeld ?_
      refine tk 7 hHeld ?_
      refine wpAnyH_done (by kernel_rfl) ?_ _
      refine NoPanic.normal ?_
      obtain ⟨ok, hok⟩ : ∃ ok, (decide (D0 < 10) && decide (D1 < 10)) = ok := ⟨_, rfl⟩
      rw [hok] at HPA
      obtain ⟨fn, tmps, assign, body, hy, hR⟩ := hY _ (10 * D0 + D1, ok) V hJ (by rw [HLN.out]; exact hlt)
      simp only [encP] at hy
      clear hX0 hX1 hD0 hD1
      have HOK := hid hok
      clear hok
      by_cases g : D0 < 10
      · have e5 : ok = decide (D1 < 10) := by rw [← HOK.out]; simp [g]
        subst e5
        have dg : decide (D0 < 10) = true := by simpa using g
        gi_wp2_with fail
        refine hR.mono ?_
        rintro e V3 (⟨rfl, hJ3, hk3⟩ | ⟨rfl, hJx3⟩)
        · have hB3 : Blk V3 b 9 #[.string S] := hk3.trans hBr
          have c3 : V3.cell? ⟨b, 0, none⟩ = some (.string S) := hB3.cell 0
          have z3 := hB3.frozen 0
          rw [← HPA.out] at hJ3
          gi_wp2_with fail
          have td := hB3.set_ 0 (.string (S.extract 2 S.size))
          have tj := hC _ _ (.string (S.extract 2 S.size)) hJ3
          go_roundw
          case rel => exact ⟨j + 1, by omega, by rw [HT.out]; exact tj, by rw [← HN.out]; exact td⟩
          case measure => rw [HLA.out, lenAt_is td, HN.out]; exact HNZ.out
        · rw [← HPA.out] at hJx3
          gi_wp2_with fail
          refine bodyPost_ret (results_none rfl _ _ _) rfl ?_
          exact ⟨⟨_, rfl⟩, .inr ⟨_, ⟨j + 1, by omega, by rw [HT.out]⟩, hJx3⟩⟩
      · have e5 : ok = false := by rw [← HOK.out]; simp [g]
        subst e5
        have dg : decide (D0 < 10) = false := by simpa using g
        gi_wp2_with fail
        refine hR.mono ?_
        rintro e V3 (⟨rfl, hJ3, hk3⟩ | ⟨rfl, hJx3⟩)
        · have hB3 : Blk V3 b 9 #[.string S] := hk3.trans hBr
          have c3 : V3.cell? ⟨b, 0, none⟩ = some (.string S) := hB3.cell 0
          have z3 := hB3.frozen 0
          rw [← HPA.out] at hJ3
          gi_wp2_with fail
          have td := hB3.set_ 0 (.string (S.extract 2 S.size))
          have tj := hC _ _ (.string (S.extract 2 S.size)) hJ3
          go_roundw
          case rel => exact ⟨j + 1, by omega, by rw [HT.out]; exact tj, by rw [← HN.out]; exact td⟩
          case measure => rw [HLA.out, lenAt_is td, HN.out]; exact HNZ.out
        · rw [← HPA.out] at hJx3
          gi_wp2_with fail
          refine bodyPost_ret (results_none rfl _ _ _) rfl ?_
          exact ⟨⟨_, rfl⟩, .inr ⟨_, ⟨j + 1, by omega, by rw [HT.out]⟩, hJx3⟩⟩
    · obtain rfl : j = s.size / 2 := by omega
      have hn : ¬ (1 < (cutS s (2 * (s.size / 2))).size) := by omega
      have hl : (pairsL s).take (s.size / 2) = pairsL s := List.take_of_length_le (by rw [pairsL_len]; exact Nat.le_refl _)
      rw [hl] at hJ
      clear hl hz
      generalize cutS s (2 * (s.size / 2)) = S at *
      have dn : decide (1 < S.size) = false := by simpa using hn
      have dn2 : decide ((1 : Int) < (S.size : Int)) = false := by simp; omega
      have hle : S.size ≤ 1 := by omega
      gi_wp2_with fail
      go_end0
      exact ⟨⟨_, rfl⟩, .inl ⟨_, rfl, hJ⟩⟩
/-- The pairs of a text that lies in a cell of its own. -/
theorem pairs_seq (b : Nat) (s : ByteArray) (hs : s.size ≤ 100) (w : World) (hB : Blk w b 9 #[.string s]) :
    Seq1 Try.prog 82 #[.pointer (some ⟨b, 0, none⟩)] encP b (s.size / 2) (fun ys => ys = pairsL s) (fun pre => ∃ k, k ≤ s.size / 2 ∧ pre = (pairsL s).take k) w :=
  fun l J Jx W hW _ hA hC hY h0 => pairs_in l b s hs J Jx W (hW.trans hB) hA hC hY h0
theorem c_pairs (s : ByteArray) (w : World) :
    Calls Try.prog 80 #[.string s] w fun e w' => e = .returned (.func (.func 82) #[] #[.pointer (some ⟨w.heap.size, 0, none⟩)]) ∧ w' = w.alloc (.cells #[.string s] 9) := by
  have hmf : ∀ (fn : Fn) (first cap : Array Value) (w : World), (Instr.makeFunc fn first cap).run Try.prog w = .ok (.func fn first cap) w := fun _ _ _ _ => rfl
  go_enter Try.func80, Try.ntmps80
  go_wp2
  go_ret
  exact ⟨rfl, rfl⟩
end Go.Proofs.Ytbhfidneijogfaa
