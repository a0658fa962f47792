/- Chapter 39: the queue that a window's bytes are (plain lists). -/
import Derived.Test.YtbhfidneijogfaaWinE
namespace Go.Proofs.Ytbhfidneijogfaa
open Go.RowKit
set_option linter.unusedVariables false
set_option linter.unusedSimpArgs false

/-- What is there, in order. -/
def qW (bs : List Int) (P N : Nat) : List Int := (List.range N).map fun i => bs[(P + i) % 1024]?.getD 0
theorem len_qW (bs : List Int) (P N : Nat) : (qW bs P N).length = N := by simp [qW]
theorem splice_at (L : List Int) (off : Nat) (cs : List Int) (j : Nat) (h : off + cs.length ≤ L.length) :
    (splice L off cs)[j]?.getD 0 = if off ≤ j ∧ j < off + cs.length then cs[j - off]?.getD 0 else L[j]?.getD 0 := by
  unfold splice
  rw [List.getElem?_append, List.length_take, Nat.min_eq_left (by omega)]
  by_cases h1 : j < off
  · rw [if_pos h1, if_neg (by omega), List.getElem?_take, if_pos h1]
  · rw [if_neg h1, List.getElem?_append]
    by_cases h2 : j - off < cs.length
    · rw [if_pos h2, if_pos (by omega)]
    · rw [if_neg h2, if_neg (by omega), List.getElem?_drop, show off + cs.length + (j - off - cs.length) = j by omega]
/-- The bytes ys put in from E on, round the end. -/
def putW (bs : List Int) (E K1 : Nat) (ys : List Int) : List Int := splice (splice bs E (ys.take K1)) 0 (ys.drop K1)
theorem len_putW (bs : List Int) (E K1 : Nat) (ys : List Int) (h1 : E + min K1 ys.length ≤ bs.length) (h2 : ys.length - K1 ≤ bs.length) : (putW bs E K1 ys).length = bs.length := by
  unfold putW
  rw [length_splice _ _ _ (by rw [length_splice _ _ _ (by simpa using h1)]; simpa using h2), length_splice _ _ _ (by simpa using h1)]
theorem putW_at (bs : List Int) (E K1 : Nat) (ys : List Int) (j : Nat) (h0 : K1 ≤ ys.length) (h1 : E + K1 ≤ bs.length) (h2 : ys.length - K1 ≤ bs.length) :
    (putW bs E K1 ys)[j]?.getD 0 = if j + K1 < ys.length then ys[K1 + j]?.getD 0 else if E ≤ j ∧ j < E + K1 then ys[j - E]?.getD 0 else bs[j]?.getD 0 := by
  have l1 : (ys.take K1).length = K1 := by simp; omega
  unfold putW
  rw [splice_at _ _ _ _ (by rw [length_splice _ _ _ (by rw [l1]; exact h1)]; simpa using h2), splice_at _ _ _ _ (by rw [l1]; exact h1), l1]
  have l2 : (ys.drop K1).length = ys.length - K1 := by simp
  rw [l2]
  by_cases g : j + K1 < ys.length
  · rw [if_pos (by omega), if_pos g, List.getElem?_drop]
    simp
  · rw [if_neg (by omega), if_neg g]
    by_cases g2 : E ≤ j ∧ j < E + K1
    · rw [if_pos g2, if_pos g2, List.getElem?_take, if_pos (by omega)]
    · rw [if_neg g2, if_neg g2]
theorem q_put (bs : List Int) (P N : Nat) (ys : List Int) (hb : bs.length = 1024) (hP : P < 1024) (hN : N + ys.length ≤ 1024) :
    qW (putW bs ((P + N) % 1024) (min ys.length (1024 - (P + N) % 1024)) ys) P (N + ys.length) = qW bs P N ++ ys := by
  generalize hE : (P + N) % 1024 = E
  have hE1 : E < 1024 := by omega
  generalize hK : min ys.length (1024 - E) = K1
  apply List.ext_getElem
  · simp [qW]
  · intro i h1 h2
    have hi : i < N + ys.length := by simpa [qW] using h1
    simp only [qW, List.getElem_map, List.getElem_range]
    rw [putW_at _ _ _ _ _ (by omega) (by omega) (by omega)]
    by_cases g : i < N
    · rw [List.getElem_append_left (by simpa [qW] using g)]
      simp only [qW, List.getElem_map, List.getElem_range]
      rw [if_neg (by omega), if_neg (by omega)]
    · rw [List.getElem_append_right (by simpa [qW] using g)]
      simp only [List.length_map, List.length_range, qW]
      have hx : ∀ q, q = i - N → ys[q]?.getD 0 = ys[i - N]'(by omega) := by
        rintro q rfl
        rw [List.getElem?_eq_getElem (by omega)]; rfl
      by_cases g2 : (P + i) % 1024 + K1 < ys.length
      · rw [if_pos g2]
        exact hx _ (by omega)
      · rw [if_neg g2, if_pos (by omega)]
        exact hx _ (by omega)
theorem q_drop (bs : List Int) (P N k : Nat) (hk : k ≤ N) : qW bs ((P + k) % 1024) (N - k) = (qW bs P N).drop k := by
  apply List.ext_getElem
  · simp [qW]
  · intro i h1 h2
    simp only [qW, List.getElem_map, List.getElem_range, List.getElem_drop]
    rw [show ((P + k) % 1024 + i) % 1024 = (P + (k + i)) % 1024 by omega]
theorem q_peek (bs : List Int) (P N : Nat) (hb : bs.length = 1024) (hP : P < 1024) (hN : N ≤ 1024) :
    splice (splice (List.replicate N 0) 0 ((bs.drop P).take (min (1024 - P) N))) (min (1024 - P) N) (bs.take (N - min (1024 - P) N)) = qW bs P N := by
  have l1 : ((bs.drop P).take (min (1024 - P) N)).length = min (1024 - P) N := by simp [hb] <;> omega
  have l2 : (bs.take (N - min (1024 - P) N)).length = N - min (1024 - P) N := by simp [hb] <;> omega
  generalize hK : min (1024 - P) N = K at *
  have z1 : (splice (List.replicate N (0 : Int)) 0 ((bs.drop P).take K)).length = N := by rw [length_splice _ _ _ (by rw [l1]; simp; omega)]; simp
  apply List.ext_getElem
  · rw [length_splice _ _ _ (by rw [l2, z1]; omega), z1, len_qW]
  · intro i h1 h2
    have hi : i < N := by simpa [qW] using h2
    have := splice_at (splice (List.replicate N 0) 0 ((bs.drop P).take K)) K (bs.take (N - K)) i (by rw [l2, z1]; omega)
    rw [List.getElem?_eq_getElem h1] at this
    simp only [Option.getD_some] at this
    rw [this, l2]
    simp only [qW, List.getElem_map, List.getElem_range]
    by_cases g : i < K
    · rw [if_neg (by omega), splice_at _ _ _ _ (by rw [l1]; simp; omega), l1, if_pos (by omega), List.getElem?_take, if_pos (by omega), List.getElem?_drop]
      rw [show P + (i - 0) = (P + i) % 1024 by omega]
    · rw [if_pos (by omega), List.getElem?_take, if_pos (by omega), show i - K = (P + i) % 1024 by omega]
def winL (md : Bool) (bs : List Int) (p n : Int) : List Value := Value.bool md :: (bs.map (Value.int .u8) ++ [.int .i64 p, .int .i64 n])
theorem winC_L (md : Bool) (bs : List Int) (p n : Int) : winC md bs p n = (winL md bs p n).toArray := rfl
theorem len_winL (md : Bool) (bs : List Int) (p n : Int) : (winL md bs p n).length = bs.length + 3 := by simp [winL]
theorem win_splice (md : Bool) (bs : List Int) (p n : Int) (off : Nat) (ys : List Int) (h : off + ys.length ≤ bs.length) :
    splice (winL md bs p n) (1 + off) (ys.map (Value.int .u8)) = winL md (splice bs off ys) p n := by
  unfold splice winL
  rw [show 1 + off = off + 1 by omega, List.take_succ_cons, List.take_append_of_le_length (by simp <;> omega), show off + 1 + (ys.map (Value.int .u8)).length = (off + ys.length) + 1 by simp <;> omega, List.drop_succ_cons, List.drop_append_of_le_length (by simpa using h)]
  simp [List.map_take, List.map_drop]
end Go.Proofs.Ytbhfidneijogfaa
