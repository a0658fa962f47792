/- Chapter 06: the references' sums; seals, and what they are the seal of. -/
import Derived.Test.YtmimnefjeidedaaFletch
import Derived.Test.YtmimnefjeidedaaMem
import Derived.WalkSpells
import Derived.Deep.RegionWith
import Derived.Deep.RegionHeld3
import Derived.Deep.DrawnRows
namespace Go.Proofs.Ytmimnefjeidedaa
open Go.RowKit
attribute [local go_sem ↓] Go.wp_at_zero Go.wp_at_succ

theorem info8 : (Try.prog.info? 5).map (fun i => (i.zero, i.size, i.bytes)) = some (some (.int .u8 0), 1, 1) := by kernel_rfl
theorem size8 : (Try.prog.info? 5).map (·.size) = some 1 := by kernel_rfl

theorem flr_More (a b : Int) (A : Option Addr) (n cap : Nat) (xs : List Int) (w : World) (h : Row .u8 w w.heap.size A n xs) (hn : n ≤ 9223372036854775807) :
    Calls Try.prog 26 #[.int .u8 a, .int .u8 b, .slice A n cap] w fun e w' => e = .returned (.tuple #[.int .u8 (moreP a b xs).1, .int .u8 (moreP a b xs).2]) ∧ w = w' := by
  go_enter Try.func26, Try.ntmps26
  go_wp2
  go_loop [0, 1, 8] (fun p q i => ∃ j : Nat, j ≤ n ∧ i = .int .i64 j ∧ p = .int .u8 (moreP a b (xs.take j)).1 ∧ q = .int .u8 (moreP a b (xs.take j)).2) (fun _ _ i => n - (intOf i).toNat)
  case atStart => exact ⟨0, Nat.zero_le _, rfl, rfl, rfl⟩
  case round =>
    obtain ⟨j, hj, rfl, rfl, rfl⟩ := hrel
    by_cases hlt : j < n
    · obtain ⟨ad, rfl, _, hc⟩ := h.at_ hlt
      have HS := hid (moreP_snoc a b (xs[j]?.getD 0) (xs.take j))
      have HT := hid (take_snoc xs j (by rw [h.1]; exact hlt))
      go_wp2
      go_round
      case rel => exact ⟨j + 1, by omega, by go_num, by rw [HT.out, HS.out], by rw [HT.out, HS.out]; simp⟩
      case measure => simp [intOf]; omega
    · obtain rfl : j = n := by omega
      have e : xs.take j = xs := List.take_of_length_le (by rw [h.1]; exact Nat.le_refl _)
      rw [e]
      clear e
      go_wp2
      go_ret2
      exact ⟨rfl, rfl⟩

theorem flr_Of (A : Option Addr) (n cap : Nat) (xs : List Int) (w : World) (h : Row .u8 w w.heap.size A n xs) (hn : n ≤ 9223372036854775807) :
    Calls Try.prog 27 #[.slice A n cap] w fun e w' => e = .returned (.tuple #[.int .u8 (sumP xs % 256), .int .u8 (twoP xs % 256)]) ∧ w = w' := by
  have H := hid (moreP_is 0 0 xs (by omega) (by omega))
  go_enter Try.func27, Try.ntmps27
  go_wp2_with (go_at_call 26; refine (flr_More _ _ _ _ _ xs _ h hn).mono ?_; rintro e w' ⟨rfl, rfl⟩)
  go_ret2
  exact ⟨by rw [H.out]; simp, rfl⟩

/-- Some bytes, and their two sums behind them. -/
def sealP (xs : List Int) : List Int := xs ++ [sumP xs % 256, twoP xs % 256]

theorem flr_Seal (A : Option Addr) (n cap : Nat) (xs : List Int) (w : World) (h : Row .u8 w w.heap.size A n xs) (hn : n ≤ 100000) :
    Calls Try.prog 31 #[.slice A n cap] w fun e w' => ∃ A' c', e = .returned (.slice A' (n + 2) c') ∧ Row .u8 w' w'.heap.size A' (n + 2) (sealP xs) ∧ n + 2 ≤ c' ∧ Below w.heap.size w w' := by
  obtain ⟨i0, hi, hz, hz1, hz2⟩ := info_parts info8
  go_enter Try.func31, Try.ntmps31
  go_wp2_with (first
    | (go_at_call 27; refine (flr_Of _ _ _ xs _ h (by omega)).mono ?_; rintro e w' ⟨rfl, rfl⟩)
    | (at_builtin; refine wpList_app rfl (.tmp 10) (.tmp 11) _ rfl w.heap.size 5 i0 0 1 Try.underlying22 hi hz hz1 hz2 (some ⟨w.heap.size, 0, none⟩) 0 0 [] rfl (Own.empty .u8 w _ (Nat.le_refl _)) w.heap.size A n cap xs rfl (h.alloc (Nat.le_refl _) _) (by unfold maxLen; omega) (by omega) (by simp) ?_; intro A2 c2 w2 ho2 hg2; simp only [Nat.zero_add, List.nil_append] at ho2; have hb2 := own_below ((Below.refl _ _).alloc (Nat.le_refl _) _) (Own.empty .u8 w _ (Nat.le_refl _)) hg2 (by simp))
    | (at_builtin; refine wpList_app rfl (.tmp 12) (.tmp 15) _ rfl w.heap.size 5 i0 0 1 Try.underlying22 hi hz hz1 hz2 A2 n c2 xs rfl (ho2.alloc _) (w2.heap.size + 1) (some ⟨w2.heap.size, 0, none⟩) 2 2 [sumP xs % 256, twoP xs % 256] rfl (Row.blk (Blk.new _ _ _) rfl (by omega)) (by unfold maxLen; omega) (by omega) (by have := hb2.size; simp; omega) ?_; intro A3 c3 w3 ho3 hg3; have hb3 := own_below (hb2.alloc hb2.size _) (ho2.alloc _) hg3 (by have := hb2.size; simp; omega)))
  go_ret
  exact ⟨A3, c3, rfl, ho3.row, ho3.cap_, hb3⟩

theorem seal_copy (n : Nat) (xs : List Int) (h : xs.length = n) : splice (List.replicate (n + 2) (Value.int .u8 0)) 0 ((xs.take n).map (Value.int .u8)) = (xs ++ [0, 0]).map (Value.int .u8) := by
  have : xs.take n = xs := List.take_of_length_le (by omega)
  rw [this]
  simp [splice, h]
theorem seal_set (n : Nat) (xs : List Int) (h : xs.length = n) (p q : Int) : (((xs ++ [0, 0]).map (Value.int .u8)).toArray.setIfInBounds n (.int .u8 p)).setIfInBounds (n + 1) (.int .u8 q) = ((xs ++ [p, q]).map (Value.int .u8)).toArray := by
  apply Array.ext'
  simp [h]
theorem fl_Seal (A : Option Addr) (n cap : Nat) (xs : List Int) (w : World) (h : Row .u8 w w.heap.size A n xs) (hn : n ≤ 100000) :
    Calls Try.prog 30 #[.slice A n cap] w fun e w' => ∃ A' c', e = .returned (.slice A' (n + 2) c') ∧ Row .u8 w' w'.heap.size A' (n + 2) (sealP xs) ∧ n + 2 ≤ c' ∧ Below w.heap.size w w' := by
  obtain ⟨i0, hi, hz, hz1, hz2⟩ := info_parts info8
  go_enter Try.func30, Try.ntmps30
  go_wp2_with (first
    | (at_make; refine wpList_makerow rfl (.tmp 7) (.tmp 7) _ rfl 5 i0 Try.underlying22 hi hz hz1 1 hz2 (n + 2) _ rfl rfl (by omega) (by omega) (by omega) ?_; intro w1 hb1 hg1 hs1; have be1 := (Below.refl w.heap.size w).grown hg1 (Nat.le_refl _) (fun k hk => by cases hk))
    | ((refine wpList_copyrow rfl (.tmp 9) (.tmp 10) _ _ rfl 5 Try.underlying22 size8 (some ⟨w.heap.size, 0, none⟩) A (n + 2) (n + 2) n cap rfl rfl w.heap.size xs (h.below be1) w.heap.size 0 (List.replicate (n + 2) (Value.int .u8 0)) _ hb1 n (Nat.min_eq_left (by omega)) (fun _ => rfl) (by simp) _ (seal_copy n xs h.1) ?_); intro w2 hb2 hg2; have be2 := be1.grown hg2 be1.size (fun k hk => by cases hk; exact Nat.le_refl _)))
  refine (fl_Of _ _ _ xs _ ((h.below be2).more be2.size) (by omega)).mono ?_
  rintro e w3 ⟨rfl, hb3⟩
  have hb4 := hb2.below hb3 (by have := hs1; have := hg2.size; omega)
  have f0 := hb4.frozen n
  have f1 := hb4.frozen (n + 1)
  have c0 : w3.cell? ⟨w.heap.size, n, none⟩ = some (.int .u8 0) := by rw [hb4.cell]; simp [h.1]
  have c1 : w3.cell? ⟨w.heap.size, n + 1, none⟩ = some (.int .u8 0) := by rw [hb4.cell]; simp [h.1]
  have hb5 := (hb4.set_ n (.int .u8 (sumP xs % 256))).set_ (n + 1) (.int .u8 (twoP xs % 256))
  rw [seal_set n xs h.1] at hb5
  have H5 := hid hb5
  clear hb5 hb4 hb2 hb1
  go_wp2
  go_ret
  have hs3 := hb3.size
  have hs2 := hg2.size
  refine ⟨_, _, rfl, ?_, Nat.le_refl _, ?_⟩
  · have := H5.out.row (B := ((w3.setCell ⟨w.heap.size, n, none⟩ (.int .u8 (sumP xs % 256))).setCell ⟨w.heap.size, n + 1, none⟩ (.int .u8 (twoP xs % 256))).heap.size) (by simp; omega)
    simpa [sealP, h.1] using this
  · exact ((be2.trans (hb3.mono be2.size)).setCell (p := ⟨w.heap.size, n, none⟩) (Nat.le_refl _) _).setCell (p := ⟨w.heap.size, n + 1, none⟩) (Nat.le_refl _) _

/-- A copy of some bytes. -/
theorem fl_Clone (ad : Addr) (n cap : Nat) (xs : List Int) (w : World) (h : Row .u8 w w.heap.size (some ad) n xs) (hn : n ≤ 100000) :
    Calls Try.prog 66 #[.slice (some ad) n cap] w fun e w' => ∃ A' c', e = .returned (.slice A' n c') ∧ Row .u8 w' w'.heap.size A' n xs ∧ Below w.heap.size w w' := by
  obtain ⟨i0, hi, hz, hz1, hz2⟩ := info_parts info8
  have ke := eql_nil 22 5 ad n cap Try.underlying22
  go_enter Try.func66, Try.ntmps66
  go_wp2_with (first
    | (at_builtin; refine wpList_app rfl (.tmp 5) (.tmp 6) _ rfl w.heap.size 5 i0 0 1 Try.underlying22 hi hz hz1 hz2 (some ⟨w.heap.size, 0, none⟩) 0 0 [] rfl (Own.empty .u8 w _ (Nat.le_refl _)) w.heap.size (some ad) n cap xs rfl (h.alloc (Nat.le_refl _) _) (by unfold maxLen; omega) (by omega) (by simp) ?_; intro A2 c2 w2 ho2 hg2; simp only [Nat.zero_add, List.nil_append] at ho2; have hb2 := own_below ((Below.refl _ _).alloc (Nat.le_refl _) _) (Own.empty .u8 w _ (Nat.le_refl _)) hg2 (by simp)))
  go_ret
  exact ⟨A2, c2, rfl, ho2.row, hb2⟩

/-- What some bytes are the seal of: is the seal of all but the last two the whole? -/
theorem fl_Open_yes (A : Option Addr) (m cap : Nat) (xs : List Int) (w : World) (h : Row .u8 w w.heap.size A (m + 2) xs) (hn : m ≤ 100000) (hc : m + 2 ≤ cap)
    (e0 : xs[m]?.getD 0 = sumP (xs.take m) % 256) (e1 : xs[m + 1]?.getD 0 = twoP (xs.take m) % 256) :
    Calls Try.prog 28 #[.slice A (m + 2) cap] w fun e w' => ∃ A' c', e = .returned (.tuple #[.slice A' m c', .bool true]) ∧ Row .u8 w' w'.heap.size A' m (xs.take m) ∧ Below w.heap.size w w' := by
  have h0 : Row .u8 w w.heap.size A m (xs.take m) := h.take (by omega) (fun e => by have := h.2.1 e; omega)
  obtain ⟨ad, rfl, _, c0⟩ := h.at_ (j := m) (by omega)
  obtain ⟨_, e2, _, c1⟩ := h.at_ (j := m + 1) (by omega)
  cases e2
  rw [e0] at c0
  rw [e1] at c1
  have H0 := hid e0
  have H1 := hid e1
  clear e0 e1
  go_enter Try.func28, Try.ntmps28
  go_wp2_with fail
  refine (fl_Of _ _ _ (xs.take m) _ ((h0.alloc (Nat.le_refl _) _).more (by simp)) (by omega)).mono ?_
  rintro e w3 ⟨rfl, hb3⟩
  have hk3 := (Blk.new w 85 #[.int .u8 0, .int .u8 0]).below hb3 (by simp)
  have k0 := hk3.cell 0
  have k1 := hk3.cell 1
  have f0 := hk3.frozen 0
  have f1 := hk3.frozen 1
  simp at k0 k1
  have d0 := far2 (i := 0) (j := 1) (u := .int .u8 (sumP (xs.take m) % 256)) (v := .int .u8 (twoP (xs.take m) % 256)) (((hb3.cell (p := ad.add m) (by rw [add_block]; simp; omega)).trans (World.cell?_alloc_lt w _ _ (by rw [add_block]; omega))).trans c0) (g := w.heap.size) (by rw [add_block]; omega)
  have d1 := far2 (i := 0) (j := 1) (u := .int .u8 (sumP (xs.take m) % 256)) (v := .int .u8 (twoP (xs.take m) % 256)) (((hb3.cell (p := ad.add (m + 1)) (by rw [add_block]; simp; omega)).trans (World.cell?_alloc_lt w _ _ (by rw [add_block]; omega))).trans c1) (g := w.heap.size) (by rw [add_block]; omega)
  rw [add_succ] at d1
  have b0 : (0 : Int) ≤ (m : Int) := by omega
  have b1 : (m : Int) < (m : Int) + 2 := by omega
  have b2 : IntKind.i64.wrap ((m : Int) + 1) = (m : Int) + 1 := IntWalk.i64_in _ (by omega)
  have b3 : (0 : Int) ≤ (m : Int) + 1 := by omega
  have b4 : (m : Int) + 1 < (m : Int) + 2 := by omega
  have b5 : ((m : Int) + 1).toNat = m + 1 := by omega
  go_wp2_with fail
  go_quiet (fail)
  clear b0 b1 b2 b3 b4 b5
  go_wp2_with fail
  have hbs : Below w.heap.size w ((w3.setCell ⟨w.heap.size, 0, none⟩ (.int .u8 (sumP (xs.take m) % 256))).setCell ⟨w.heap.size, 1, none⟩ (.int .u8 (twoP (xs.take m) % 256))) :=
    ((((Below.refl _ w).alloc (Nat.le_refl _) _).trans (hb3.mono (by simp))).setCell (p := ⟨w.heap.size, 0, none⟩) (Nat.le_refl _) _).setCell (p := ⟨w.heap.size, 1, none⟩) (Nat.le_refl _) _
  refine (fl_Clone ad m cap (xs.take m) _ (((h0.below hbs).drewN _).more hbs.size) hn).mono ?_
  rintro e w4 ⟨A', c', rfl, hr4, hb4⟩
  have hn4 := Nat.le_trans hbs.size hb4.size
  have hb5 := (hbs.drewN' nq).trans (hb4.mono hbs.size)
  clear hbs d0 d1 c0 c1 k0 k1 f0 f1 hk3 hb4 h0 h
  go_wp2
  go_ret2
  exact ⟨A', c', rfl, hr4, hb5⟩

theorem fl_Open_no (A : Option Addr) (m cap : Nat) (xs : List Int) (w : World) (h : Row .u8 w w.heap.size A (m + 2) xs) (hn : m ≤ 100000) (hc : m + 2 ≤ cap)
    (e0 : ¬ (xs[m]?.getD 0 = sumP (xs.take m) % 256 ∧ xs[m + 1]?.getD 0 = twoP (xs.take m) % 256)) :
    Calls Try.prog 28 #[.slice A (m + 2) cap] w fun e w' => e = .returned (.tuple #[.slice none 0 0, .bool false]) ∧ Below w.heap.size w w' := by
  have h0 : Row .u8 w w.heap.size A m (xs.take m) := h.take (by omega) (fun e => by have := h.2.1 e; omega)
  obtain ⟨ad, rfl, _, c0⟩ := h.at_ (j := m) (by omega)
  obtain ⟨_, e2, _, c1⟩ := h.at_ (j := m + 1) (by omega)
  cases e2
  generalize xs[m]?.getD 0 = x0 at *
  generalize xs[m + 1]?.getD 0 = x1 at *
  have ht : ((sumP (xs.take m) % 256 == x0) && (twoP (xs.take m) % 256 == x1)) = false := by
    rw [Bool.eq_false_iff]; intro hh; simp at hh; exact e0 ⟨hh.1.symm, hh.2.symm⟩
  have HT := hid ht
  clear e0 ht
  go_enter Try.func28, Try.ntmps28
  go_wp2_with fail
  refine (fl_Of _ _ _ (xs.take m) _ ((h0.alloc (Nat.le_refl _) _).more (by simp)) (by omega)).mono ?_
  rintro e w3 ⟨rfl, hb3⟩
  have hk3 := (Blk.new w 85 #[.int .u8 0, .int .u8 0]).below hb3 (by simp)
  have k0 := hk3.cell 0
  have k1 := hk3.cell 1
  have f0 := hk3.frozen 0
  have f1 := hk3.frozen 1
  simp at k0 k1
  have d0 := far2 (i := 0) (j := 1) (u := .int .u8 (sumP (xs.take m) % 256)) (v := .int .u8 (twoP (xs.take m) % 256)) (((hb3.cell (p := ad.add m) (by rw [add_block]; simp; omega)).trans (World.cell?_alloc_lt w _ _ (by rw [add_block]; omega))).trans c0) (g := w.heap.size) (by rw [add_block]; omega)
  have d1 := far2 (i := 0) (j := 1) (u := .int .u8 (sumP (xs.take m) % 256)) (v := .int .u8 (twoP (xs.take m) % 256)) (((hb3.cell (p := ad.add (m + 1)) (by rw [add_block]; simp; omega)).trans (World.cell?_alloc_lt w _ _ (by rw [add_block]; omega))).trans c1) (g := w.heap.size) (by rw [add_block]; omega)
  rw [add_succ] at d1
  have hbs : Below w.heap.size w ((w3.setCell ⟨w.heap.size, 0, none⟩ (.int .u8 (sumP (xs.take m) % 256))).setCell ⟨w.heap.size, 1, none⟩ (.int .u8 (twoP (xs.take m) % 256))) :=
    ((((Below.refl _ w).alloc (Nat.le_refl _) _).trans (hb3.mono (by simp))).setCell (p := ⟨w.heap.size, 0, none⟩) (Nat.le_refl _) _).setCell (p := ⟨w.heap.size, 1, none⟩) (Nat.le_refl _) _
  clear h h0 hb3 hk3
  generalize sumP (xs.take m) % 256 = s0 at *
  generalize twoP (xs.take m) % 256 = s1 at *
  have b0 : (0 : Int) ≤ (m : Int) := by omega
  have b1 : (m : Int) < (m : Int) + 2 := by omega
  have b2 : IntKind.i64.wrap ((m : Int) + 1) = (m : Int) + 1 := IntWalk.i64_in _ (by omega)
  have b3 : (0 : Int) ≤ (m : Int) + 1 := by omega
  have b4 : (m : Int) + 1 < (m : Int) + 2 := by omega
  have b5 : ((m : Int) + 1).toNat = m + 1 := by omega
  by_cases g0 : s0 = x0
  · have g1 : (s1 == x1) = false := by have := HT.out; simpa [g0] using this
    subst g0
    go_wp2_with fail
    go_quiet (fail)
    clear b0 b1 b2 b3 b4 b5
    go_wp2
    go_ret2
    exact ⟨rfl, hbs.drewN' nq⟩
  · have g1 : (s0 == x0) = false := by simpa using g0
    clear g0
    go_wp2_with fail
    go_quiet (fail)
    clear b0 b1 b2 b3 b4 b5
    go_wp2
    go_ret2
    exact ⟨rfl, hbs.drewN' nq⟩

theorem fl_Open_short (A : Option Addr) (n cap : Nat) (w : World) (hn : n < 2) :
    Calls Try.prog 28 #[.slice A n cap] w fun e w' => e = .returned (.tuple #[.slice none 0 0, .bool false]) ∧ w = w' := by
  have hd : decide ((n : Int) - 2 < 0) = true := by simp; omega
  go_enter Try.func28, Try.ntmps28
  go_wp2
  go_ret2
  exact ⟨rfl, rfl⟩

theorem flr_Open_short (A : Option Addr) (n cap : Nat) (w : World) (hn : n < 2) :
    Calls Try.prog 29 #[.slice A n cap] w fun e w' => e = .returned (.tuple #[.slice none 0 0, .bool false]) ∧ Below w.heap.size w w' := by
  have hd : decide ((n : Int) - 2 < 0) = true := by simp; omega
  go_enter Try.func29, Try.ntmps29
  go_wp2
  go_quiet (fail)
  go_wp2
  go_ret2
  exact ⟨rfl, (Below.refl _ _).drewN' _⟩

end Go.Proofs.Ytmimnefjeidedaa
