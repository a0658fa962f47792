/- Chapter 03: the bytes of a number, by the program and by the reference. -/
import Derived.Test.YtmimnefjeidedaaVary
namespace Go.Proofs.Ytmimnefjeidedaa
open Go.RowKit

theorem va_put (u : Int) (g base n c : Nat) (A : Option Addr) (ys : List Int) (w : World) (h : 0 ≤ u ∧ u ≤ 18446744073709551615) (hb : Blk w g 89 #[.slice A n c]) (ho : Own .u8 w base 5 A n c ys) (hg : base ≤ g) (hn : n ≤ 1000000) (hbs : base ≤ w.heap.size) :
    Calls Try.prog 65 #[.pointer (some ⟨g, 0, none⟩), .int .u64 u] w fun e w' => e = .returned (.tuple #[]) ∧ ∃ A' c', Blk w' g 89 #[.slice A' (n + (putP u).length) c'] ∧ Own .u8 w' base 5 A' (n + (putP u).length) c' (ys ++ putP u) ∧ Below base w w' := by
  obtain ⟨i0, hi, hz, hz1, hz2⟩ := info_parts info8v
  have HN := hid ho.len
  go_enter Try.func65, Try.ntmps65
  go_wp2
  go_loopw [1] (fun p wr => ∃ (k j : Nat) (cur : Int) (A1 : Option Addr) (c1 : Nat) (zs : List Int), p = .int .u64 cur ∧ 0 ≤ cur ∧ cur ≤ 18446744073709551615 ∧ j + k ≤ n + 9 ∧ Hid (cur < 128 ^ (k + 1)) ∧ Hid (zs ++ putF k cur = ys ++ putP u) ∧
      Blk wr g 89 #[.slice A1 j c1] ∧ Own .u8 wr base 5 A1 j c1 zs ∧ Below base w wr) (fun p _ => (intOf p).toNat)
  case atStart => exact ⟨9, n, u, A, c, ys, rfl, h.1, h.2, by omega, by show _ < _; omega, rfl, hb, ho, Below.refl _ _⟩
  case round =>
    obtain ⟨k, j, cur, A1, c1, zs, rfl, h0, h1, hjk, hk, hl, hb1, ho1, hbe⟩ := hrel
    clear hb ho h
    have hs1 := Nat.le_trans hbs hbe.size
    have k0 := hb1.cell 0
    have f0 := hb1.frozen 0
    simp at k0
    by_cases gk : 128 ≤ cur
    · cases k with
      | zero => exact absurd hk.out (by omega)
      | succ k =>
        have HC := hid (cont_byte cur)
        go_wp2_with (first
          | (at_builtin; refine wpList_app rfl (.tmp 12) (.tmp 16) _ rfl base 5 i0 0 1 Try.underlying22 hi hz hz1 hz2 A1 j c1 zs rfl (ho1.alloc _) (wr.heap.size + 1) (some ⟨wr.heap.size, 0, none⟩) 1 1 [bits .or .u8 (cur % 256) 128] rfl (Row.blk (Blk.new _ _ _) rfl (by omega)) (by unfold maxLen; omega) (by omega) (by simp; omega) ?_; intro A2 c2 w2 ho2 hg2; have hb2 := ho1.keeps hb1 _ hg2 (by decide); have be2 := own_below_alloc hbe ho1 _ hg2 hs1; have k2 := hb2.cell 0; have f2 := hb2.frozen 0; simp at k2))
        have hb3 := hb2.set_ 0 (.slice A2 (j + 1) c2)
        have ho3 := ho2.setFar hb2 (by decide) 0 (.slice A2 (j + 1) c2)
        have be3 := be2.setCell (p := ⟨g, 0, none⟩) hg (.slice A2 (j + 1) c2)
        simp at hb3
        go_roundw
        case rel =>
          refine ⟨k, j + 1, cur / 128, A2, c2, zs ++ [bits .or .u8 (cur % 256) 128], rfl, by omega, by omega, by omega, pow_step k cur hk.out, ?_, hb3, ho3, be3⟩
          show _ = _
          rw [← hl.out, putF_ge k cur gk, HC.out]; simp
        case measure => simp [intOf]; omega
    · have HL := hid (putF_lt k cur (by omega))
      go_wp2_with (first
        | (at_builtin; refine wpList_app rfl (.tmp 24) (.tmp 27) _ rfl base 5 i0 0 1 Try.underlying22 hi hz hz1 hz2 A1 j c1 zs rfl (ho1.alloc _) (wr.heap.size + 1) (some ⟨wr.heap.size, 0, none⟩) 1 1 [cur] rfl (Row.blk (Blk.new _ _ _) rfl (by omega)) (by unfold maxLen; omega) (by omega) (by simp; omega) ?_; intro A2 c2 w2 ho2 hg2; have hb2 := ho1.keeps hb1 _ hg2 (by decide); have be2 := own_below_alloc hbe ho1 _ hg2 hs1; have k2 := hb2.cell 0; have f2 := hb2.frozen 0; simp at k2))
      have hb3 := hb2.set_ 0 (.slice A2 (j + 1) c2)
      have ho3 := ho2.setFar hb2 (by decide) 0 (.slice A2 (j + 1) c2)
      have be3 := be2.setCell (p := ⟨g, 0, none⟩) hg (.slice A2 (j + 1) c2)
      simp at hb3
      have hlen : j + 1 = n + (putP u).length := by
        have h1 := congrArg List.length hl.out
        rw [HL.out] at h1
        simp [ho1.len] at h1
        rw [h1, HN.out]
      have hzs : zs ++ [cur] = ys ++ putP u := by rw [← hl.out, HL.out]
      have H3 := hid hb3
      have H4 := hid ho3
      have H5 := hid hlen
      have H6 := hid hzs
      clear hb3 ho3 hlen hzs hb2 ho2
      go_end0
      refine ⟨rfl, A2, c2, ?_, ?_, be3⟩
      · rw [← H5.out]; exact H3.out
      · rw [← H5.out, ← H6.out]; exact H4.out

/-- A slice of bytes of the call's own that reads as ys. -/
def Gives (w : World) (ys : List Int) (e : Ending) (w' : World) : Prop := ∃ A' c', e = .returned (.slice A' ys.length c') ∧ Row .u8 w' w'.heap.size A' ys.length ys ∧ ys.length ≤ c' ∧ Below w.heap.size w w'

theorem va_Put (u : Int) (w : World) (h : 0 ≤ u ∧ u ≤ 18446744073709551615) :
    Calls Try.prog 22 #[.int .u64 u] w (Gives w (putP u)) := by
  have hb := Blk.new w 89 #[.slice none 0 0]
  have ho := (Own.nil_ .u8 w w.heap.size 5).alloc (.cells #[.slice none 0 0] 89)
  go_enter Try.func22, Try.ntmps22
  go_wp2_with fail
  refine (va_put u w.heap.size w.heap.size 0 0 none [] _ h hb ho (Nat.le_refl _) (by omega) (by simp)).mono ?_
  rintro e w1 ⟨rfl, A1, c1, hb1, ho1, be1⟩
  simp only [Nat.zero_add, List.nil_append] at hb1 ho1
  have k1 := hb1.cell 0
  simp at k1
  have H := hid (show Gives w (putP u) (.returned (.slice A1 (putP u).length c1)) w1 from ⟨A1, c1, rfl, ho1.row, ho1.cap_, ((Below.refl _ w).alloc (Nat.le_refl _) _).trans be1⟩)
  clear hb1 ho1 hb ho be1
  go_wp2
  go_ret
  exact H.out

theorem var_Put (u : Int) (w : World) (h : 0 ≤ u ∧ u ≤ 18446744073709551615) :
    Calls Try.prog 23 #[.int .u64 u] w (Gives w (putP u)) := by
  obtain ⟨i0, hi, hz, hz1, hz2⟩ := info_parts info8v
  go_enter Try.func23, Try.ntmps23
  go_wp2
  go_loopw [0, 3] (fun p q wr => ∃ (k j : Nat) (cur : Int) (A1 : Option Addr) (c1 : Nat) (zs : List Int), p = .int .u64 cur ∧ q = .slice A1 j c1 ∧ 0 ≤ cur ∧ cur ≤ 18446744073709551615 ∧ j + k ≤ 9 ∧ Hid (cur < 128 ^ (k + 1)) ∧ Hid (zs ++ putF k cur = putP u) ∧
      Own .u8 wr w.heap.size 5 A1 j c1 zs ∧ Below w.heap.size w wr) (fun p _ _ => (intOf p).toNat)
  case atStart => exact ⟨9, 0, u, none, 0, [], rfl, rfl, h.1, h.2, by omega, by show _ < _; omega, rfl, Own.nil_ _ _ _ _, Below.refl _ _⟩
  case round =>
    obtain ⟨k, j, cur, A1, c1, zs, rfl, rfl, h0, h1, hjk, hk, hl, ho1, hbe⟩ := hrel
    clear h
    have hs1 := hbe.size
    by_cases gk : 127 < cur
    · cases k with
      | zero => exact absurd hk.out (by omega)
      | succ k =>
        have HC : Hid (cur % 128 + 128 < 256) := by show _ < _; omega
        go_wp2_with (first
          | (at_builtin; refine wpList_app rfl (.tmp 6) (.tmp 11) _ rfl w.heap.size 5 i0 0 1 Try.underlying22 hi hz hz1 hz2 A1 j c1 zs rfl (ho1.alloc _) (wr.heap.size + 1) (some ⟨wr.heap.size, 0, none⟩) 1 1 [cur % 128 + 128] rfl (Row.blk (Blk.new _ _ _) rfl (by omega)) (by unfold maxLen; omega) (by omega) (by simp; omega) ?_; intro A2 c2 w2 ho2 hg2; have be2 := own_below_alloc hbe ho1 _ hg2 hs1))
        go_roundw
        case rel =>
          refine ⟨k, j + 1, cur / 128, A2, c2, zs ++ [cur % 128 + 128], rfl, rfl, by omega, by omega, by omega, pow_step k cur hk.out, ?_, ho2, be2⟩
          show _ = _
          rw [← hl.out, putF_ge k cur (by omega)]; simp
        case measure => simp [intOf]; omega
    · have HL := hid (putF_lt k cur (by omega))
      go_wp2_with (first
        | (at_builtin; refine wpList_app rfl (.tmp 15) (.tmp 18) _ rfl w.heap.size 5 i0 0 1 Try.underlying22 hi hz hz1 hz2 A1 j c1 zs rfl (ho1.alloc _) (wr.heap.size + 1) (some ⟨wr.heap.size, 0, none⟩) 1 1 [cur] rfl (Row.blk (Blk.new _ _ _) rfl (by omega)) (by unfold maxLen; omega) (by omega) (by simp; omega) ?_; intro A2 c2 w2 ho2 hg2; have be2 := own_below_alloc hbe ho1 _ hg2 hs1))
      have hzs : zs ++ [cur] = putP u := by rw [← hl.out, HL.out]
      rw [hzs] at ho2
      have hlen : j + 1 = (putP u).length := ho2.len.symm
      rw [hlen] at ho2
      have H := hid (show Gives w (putP u) (.returned (.slice A2 (j + 1) c2)) w2 from ⟨A2, c2, by rw [hlen], ho2.row, ho2.cap_, be2⟩)
      clear hlen hzs ho2
      go_ret
      exact H.out
end Go.Proofs.Ytmimnefjeidedaa
