/- Chapter 31: the two forms that a quiet node uses. -/
import Derived.Test.YtldoocndhfgjhaaGreatSch
import Derived.Laws.Rows
namespace Go.Proofs.YtldoocndhfgjhaaGreat
open Go.RowKit
set_option linter.unusedVariables false
set_option linter.unusedSimpArgs false

theorem s_u8 (A : Option Addr) (cap : Nat) (ns : List ByteArray) (w : World) (h : Tab 1 w w.heap.size A ns.length (ns.map nameL)) (hn : ns.length ≤ 1000) :
    Calls Tryz.prog 99 #[.slice A ns.length cap] w (PartsOut (ns.map (partL 1 false)) w) := by
  have H := hid (s_parts 1 false A cap ns w h hn)
  obtain ⟨n, hnn⟩ : ∃ n, ns.length = n := ⟨_, rfl⟩
  have HO : Hid (∀ A' c' w', OTab 4 w' w.heap.size 190 A' n c' (ns.map (partL 1 false)) → Below w.heap.size w w' → PartsOut (ns.map (partL 1 false)) w (.returned (.slice A' n c')) w') := hid fun A' c' w' h1 h2 => ⟨A', c', by rw [List.length_map, hnn], by rw [List.length_map, hnn]; exact h1, h2⟩
  have HN := hid hnn
  rw [hnn] at H ⊢
  clear h hn hnn
  go_enter Tryz.func99, Tryz.ntmps99
  go_wp2_with fail
  refine H.out.mono ?_
  rintro e w1 ⟨A', c', rfl, h1, h2⟩
  rw [List.length_map, HN.out] at h1 ⊢
  have HH := hid (HO.out A' c' w1 h1 h2)
  clear h1
  go_wp2
  go_ret
  exact HH.out
theorem s_u32 (A : Option Addr) (cap : Nat) (ns : List ByteArray) (w : World) (h : Tab 1 w w.heap.size A ns.length (ns.map nameL)) (hn : ns.length ≤ 1000) :
    Calls Tryz.prog 100 #[.slice A ns.length cap] w (PartsOut (ns.map (partL 4 false)) w) := by
  have H := hid (s_parts 4 false A cap ns w h hn)
  obtain ⟨n, hnn⟩ : ∃ n, ns.length = n := ⟨_, rfl⟩
  have HO : Hid (∀ A' c' w', OTab 4 w' w.heap.size 190 A' n c' (ns.map (partL 4 false)) → Below w.heap.size w w' → PartsOut (ns.map (partL 4 false)) w (.returned (.slice A' n c')) w') := hid fun A' c' w' h1 h2 => ⟨A', c', by rw [List.length_map, hnn], by rw [List.length_map, hnn]; exact h1, h2⟩
  have HN := hid hnn
  rw [hnn] at H ⊢
  clear h hn hnn
  go_enter Tryz.func100, Tryz.ntmps100
  go_wp2_with fail
  refine H.out.mono ?_
  rintro e w1 ⟨A', c', rfl, h1, h2⟩
  rw [List.length_map, HN.out] at h1 ⊢
  have HH := hid (HO.out A' c' w1 h1 h2)
  clear h1
  go_wp2
  go_ret
  exact HH.out
theorem s_i16 (A : Option Addr) (cap : Nat) (ns : List ByteArray) (w : World) (h : Tab 1 w w.heap.size A ns.length (ns.map nameL)) (hn : ns.length ≤ 1000) :
    Calls Tryz.prog 102 #[.slice A ns.length cap] w (PartsOut (ns.map (partL 2 true)) w) := by
  have H := hid (s_parts 2 true A cap ns w h hn)
  obtain ⟨n, hnn⟩ : ∃ n, ns.length = n := ⟨_, rfl⟩
  have HO : Hid (∀ A' c' w', OTab 4 w' w.heap.size 190 A' n c' (ns.map (partL 2 true)) → Below w.heap.size w w' → PartsOut (ns.map (partL 2 true)) w (.returned (.slice A' n c')) w') := hid fun A' c' w' h1 h2 => ⟨A', c', by rw [List.length_map, hnn], by rw [List.length_map, hnn]; exact h1, h2⟩
  have HN := hid hnn
  rw [hnn] at H ⊢
  clear h hn hnn
  go_enter Tryz.func102, Tryz.ntmps102
  go_wp2_with fail
  refine H.out.mono ?_
  rintro e w1 ⟨A', c', rfl, h1, h2⟩
  rw [List.length_map, HN.out] at h1 ⊢
  have HH := hid (HO.out A' c' w1 h1 h2)
  clear h1
  go_wp2
  go_ret
  exact HH.out
/-- Some lists of parts, each below block B. -/
def RowsIn (w : World) (B : Nat) (ad : Addr) (rs : List (Option Addr × Nat × Nat × List (List Value))) : Prop :=
  ad.block < B ∧ ∀ j r, rs[j]? = some r → w.cell? (ad.add j) = some (.slice r.1 r.2.1 r.2.2.1) ∧ Tab 4 w B r.1 r.2.1 r.2.2.2
theorem RowsIn.below {w w' : World} {B : Nat} {ad : Addr} {rs : List (Option Addr × Nat × Nat × List (List Value))} (h : RowsIn w B ad rs) (hb : Below B w w') : RowsIn w' B ad rs :=
  ⟨h.1, fun j r hj => ⟨(hb.cell (by rw [add_block]; exact h.1)).trans (h.2 j r hj).1, (h.2 j r hj).2.below hb⟩⟩
def catP (rs : List (Option Addr × Nat × Nat × List (List Value))) : List (List Value) := rs.flatMap (fun r => r.2.2.2)
theorem cat_snoc (rs : List (Option Addr × Nat × Nat × List (List Value))) (j : Nat) (r : Option Addr × Nat × Nat × List (List Value)) (h : rs[j]? = some r) : catP (rs.take (j + 1)) = catP (rs.take j) ++ r.2.2.2 := by
  have hl := (List.getElem?_eq_some_iff.1 h).1
  have := (List.getElem?_eq_some_iff.1 h).2
  unfold catP
  rw [List.take_succ_eq_append_getElem hl, List.flatMap_append]
  simp [this]
theorem cat_le (rs : List (Option Addr × Nat × Nat × List (List Value))) (j : Nat) : (catP (rs.take j)).length ≤ (catP rs).length := by
  have h : catP rs = catP (rs.take j) ++ catP (rs.drop j) := by
    unfold catP
    rw [← List.flatMap_append, List.take_append_drop]
  rw [h, List.length_append]; omega
/-- A form. -/
def FormOut (name : ByteArray) (ps : List (List Value)) (w : World) (e : Ending) (w' : World) : Prop := ∃ A' c', e = .returned (.agg #[.string name, .slice A' ps.length c']) ∧ OTab 4 w' w.heap.size 190 A' ps.length c' ps ∧ Below w.heap.size w w'
set_option maxHeartbeats 4000000 in
theorem s_of (name : ByteArray) (ad : Addr) (rs : List (Option Addr × Nat × Nat × List (List Value))) (w : World) (h : RowsIn w w.heap.size ad rs) (hk : rs.length ≤ 100) (hn : (catP rs).length ≤ 1000) :
    Calls Tryz.prog 98 #[.string name, .slice (some ad) rs.length rs.length] w (FormOut name (catP rs) w) := by
  obtain ⟨i0, hi, hz, hz1, hz2⟩ := info_parts3 infoPart
  have HO : Hid (∀ A' c' w', OTab 4 w' w.heap.size 190 A' (catP rs).length c' (catP rs) → Below w.heap.size w w' → FormOut name (catP rs) w (.returned (.agg #[.string name, .slice A' (catP rs).length c'])) w') := hid fun A' c' w' h1 h2 => ⟨A', c', rfl, h1, h2⟩
  obtain ⟨k, hkk⟩ : ∃ k, rs.length = k := ⟨_, rfl⟩
  have HK := hid hkk
  rw [hkk] at hk ⊢
  clear hkk
  have e0 := Blk.new w 154 #[.string { data := #[] }, .slice none 0 0]
  have e1 := Blk.new (w.alloc (.cells #[.string { data := #[] }, .slice none 0 0] 154)) 154 #[.string name, .slice none 0 0]
  simp only [World.size_alloc] at e1
  replace e0 := e0.alloc (.cells #[.string name, .slice none 0 0] 154)
  have hb := ((Below.refl w.heap.size w).alloc (Nat.le_refl _) (.cells #[.string { data := #[] }, .slice none 0 0] 154)).alloc (by simp) (.cells #[.string name, .slice none 0 0] 154)
  have hs2 : w.heap.size + 2 ≤ ((w.alloc (.cells #[.string { data := #[] }, .slice none 0 0] 154)).alloc (.cells #[.string name, .slice none 0 0] 154)).heap.size := by simp
  go_enter Tryz.func98, Tryz.ntmps98
  go_wp2
  generalize (w.alloc (.cells #[.string { data := #[] }, .slice none 0 0] 154)).alloc (.cells #[.string name, .slice none 0 0] 154) = W at *
  go_loopw [12] (fun i wr => ∃ (j : Nat) (X : Option Addr) (d m : Nat), j ≤ k ∧ i = .int .i64 j ∧ m = (catP (rs.take j)).length ∧ Blk wr (w.heap.size + 1) 154 #[.string name, .slice X m d] ∧ Blk wr w.heap.size 154 #[.string { data := #[] }, .slice none 0 0] ∧ OTab 4 wr w.heap.size 190 X m d (catP (rs.take j)) ∧ Below w.heap.size w wr ∧ w.heap.size + 2 ≤ wr.heap.size) (fun i _ => k - (intOf i).toNat)
  case atStart => exact ⟨0, none, 0, 0, Nat.zero_le _, rfl, rfl, e1, e0, OTab.nil_ _ _ _ _, hb, hs2⟩
  case round =>
    clear e0 e1 hb hs2
    obtain ⟨j, X, d, m, hj, rfl, hm, e1, e0, ho, hb, hs2⟩ := hrel
    have f0 : wr.cell? ⟨w.heap.size + 1, 0, none⟩ = some (.string name) := e1.cell 0
    have f1 : wr.cell? ⟨w.heap.size + 1, 1, none⟩ = some (.slice X m d) := e1.cell 1
    by_cases hlt : j < k
    · have hns : j < rs.length := by rw [HK.out]; exact hlt
      obtain ⟨⟨Y, q, y, qs⟩, hs⟩ : ∃ r, rs[j]? = some r := ⟨_, List.getElem?_eq_getElem hns⟩
      obtain ⟨hc, ht⟩ := (h.below hb).2 j _ hs
      dsimp only at hc ht
      have HT := hid (cat_snoc rs j _ hs)
      have hle := cat_le rs (j + 1)
      rw [HT.out, List.length_append] at hle
      dsimp only at hle
      have hq : qs.length = q := ht.1
      have hmq : m + q ≤ 1000 := by omega
      have m1 : k - (j + 1) < k - j := by omega
      have j0 : (0 : Int) ≤ (j : Int) := by omega
      have j1 : (j : Int) < (k : Int) := by omega
      have HM : Hid (m + q = (catP (rs.take (j + 1))).length) := hid (by rw [HT.out, List.length_append, hm, ← hq])
      have HH := hid h
      have z1 := e1.frozen 1
      clear hs hle hq h hm
      go_upto_region 5 with fail
      go_wp2_with (first
        | (at_builtin; refine wpList_appW rfl (.tmp 17) (.tmp 18) _ rfl w.heap.size 190 i0 _ 4 40 Tryz.underlying152 hi hz hz1 hz2 rfl (by omega) X m d _ rfl ho w.heap.size Y q y qs rfl ht (by unfold maxLen; omega) (by omega) (by omega) ?_; intro X2 d2 w2 ho2 hg2; have hb2 := otab_below hb ho hg2 (by omega); have k1 := e1.grown hg2 (ho.ne_ e1 (by decide)); have k0 := e0.grown hg2 (ho.ne_ e0 (by decide)); have hs3 := Nat.le_trans hs2 hg2.size; have z2 := k1.frozen 1; have c2 : w2.cell? ⟨w.heap.size + 1, 1, none⟩ = some (.slice X m d) := k1.cell 1))
      have t1 := k1.set_ 1 (.slice X2 (m + q) d2)
      have t0 := k0.far (p := ⟨w.heap.size + 1, 1, none⟩) (by dsimp only; omega) (.slice X2 (m + q) d2)
      have t2 := ho2.kept (only_set (World.grownBy.refl w2 _) 1 (.slice X2 (m + q) d2)) (Or.inr (Ne.symm (ho2.ne_ k1 (by decide))))
      have tb := hb2.setCell (p := ⟨w.heap.size + 1, 1, none⟩) (by dsimp only; omega) (.slice X2 (m + q) d2)
      simp only [List.setIfInBounds_toArray, List.set_cons_zero, List.set_cons_succ] at t1
      go_roundw
      case rel => exact ⟨j + 1, X2, d2, m + q, by omega, by go_num, HM.out, t1, t0, by rw [HT.out]; exact t2, tb, by simpa [World.setCell] using hs3⟩
      case measure => simpa [intOf] using m1
    · obtain rfl : j = k := by omega
      have e : rs.take j = rs := List.take_of_length_le (by rw [HK.out]; exact Nat.le_refl _)
      rw [e] at ho hm
      subst hm
      have HX := hid ho
      have z0 := e0.frozen 0
      have z1 := e0.frozen 1
      have c0 : wr.cell? ⟨w.heap.size, 0, none⟩ = some (.string { data := #[] }) := e0.cell 0
      have c1 : wr.cell? ⟨w.heap.size, 1, none⟩ = some (.slice none 0 0) := e0.cell 1
      have t0 := (e0.set_ 0 (.string name)).set_ 1 (.slice X (catP rs).length d)
      simp only [List.setIfInBounds_toArray, List.set_cons_zero, List.set_cons_succ] at t0
      have T2 := hid (((ho.kept (only_set (World.grownBy.refl wr _) 0 (.string name)) (Or.inr (Ne.symm (ho.ne_ e0 (by decide)))))).kept (only_set (World.grownBy.refl _ _) 1 (.slice X (catP rs).length d)) (Or.inr (Ne.symm (ho.ne_ e0 (by decide)))))
      have tb := (hb.setCell (p := ⟨w.heap.size, 0, none⟩) (by dsimp only; omega) (.string name)).setCell (p := ⟨w.heap.size, 1, none⟩) (by dsimp only; omega) (.slice X (catP rs).length d)
      clear e h ho HK
      generalize (catP rs).length = m at *
      go_wp2
      refine bodyPost_ret (results_cell_row rfl _ _ w.heap.size _ _ _ _ rfl t0 Tryz.underlying154 rfl (by kernel_rfl)) rfl ?_
      exact HO.out _ _ _ T2.out tb
end Go.Proofs.YtldoocndhfgjhaaGreat
