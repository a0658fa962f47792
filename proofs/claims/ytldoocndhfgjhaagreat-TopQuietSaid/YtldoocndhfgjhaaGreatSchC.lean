/- Chapter 31: the forms of numbers 0 and 200, found. -/
import Derived.Test.YtldoocndhfgjhaaGreatSchB
namespace Go.Proofs.YtldoocndhfgjhaaGreat
open Go.RowKit
set_option linter.unusedVariables false
set_option linter.unusedSimpArgs false

theorem OTab.lower {sz : Nat} {w : World} {base base' : Nat} {e : TypeId} {A : Option Addr} {n c : Nat} {ps : List (List Value)} (h : OTab sz w base e A n c ps) (hb : base' ≤ base) : OTab sz w base' e A n c ps := by
  refine ⟨⟨h.1.1, ?_⟩, h.2⟩
  rcases h.1.2 with h1 | ⟨g, cap, cur, h1, h2, h3⟩
  · exact .inl h1
  · exact .inr ⟨g, cap, cur, h1, Nat.le_trans hb h2, h3⟩
theorem PartsOut.to {ps : List (List Value)} {w w' : World} {e : Ending} (h : PartsOut ps w e w') (n : Nat) (hn : ps.length = n) : ∃ A' c', e = .returned (.slice A' n c') ∧ OTab 4 w' w.heap.size 190 A' n c' ps ∧ Below w.heap.size w w' := by
  subst hn; exact h
theorem FormOut.to {name : ByteArray} {ps : List (List Value)} {w w' : World} {e : Ending} (h : FormOut name ps w e w') (n : Nat) (hn : ps.length = n) : ∃ A' c', e = .returned (.agg #[.string name, .slice A' n c']) ∧ OTab 4 w' w.heap.size 190 A' n c' ps ∧ Below w.heap.size w w' := by
  subst hn; exact h
theorem RowsIn.three {w : World} {B g : Nat} {t : TypeId} {A1 A2 A3 : Option Addr} {n1 n2 n3 c1 c2 c3 : Nat} {p1 p2 p3 : List (List Value)} (h : Blk w g t #[.slice A1 n1 c1, .slice A2 n2 c2, .slice A3 n3 c3]) (hg : g < B) (h1 : Tab 4 w B A1 n1 p1) (h2 : Tab 4 w B A2 n2 p2) (h3 : Tab 4 w B A3 n3 p3) :
    RowsIn w B ⟨g, 0, none⟩ [(A1, n1, c1, p1), (A2, n2, c2, p2), (A3, n3, c3, p3)] := by
  refine ⟨hg, fun j r hj => ?_⟩
  match j, hj with
  | 0, hj => cases hj; exact ⟨h.cell 0, h1⟩
  | 1, hj => cases hj; exact ⟨h.cell 1, h2⟩
  | 2, hj => cases hj; exact ⟨h.cell 2, h3⟩
theorem RowsIn.two {w : World} {B g : Nat} {t : TypeId} {A1 A2 : Option Addr} {n1 n2 c1 c2 : Nat} {p1 p2 : List (List Value)} (h : Blk w g t #[.slice A1 n1 c1, .slice A2 n2 c2]) (hg : g < B) (h1 : Tab 4 w B A1 n1 p1) (h2 : Tab 4 w B A2 n2 p2) :
    RowsIn w B ⟨g, 0, none⟩ [(A1, n1, c1, p1), (A2, n2, c2, p2)] := by
  refine ⟨hg, fun j r hj => ?_⟩
  match j, hj with
  | 0, hj => cases hj; exact ⟨h.cell 0, h1⟩
  | 1, hj => cases hj; exact ⟨h.cell 1, h2⟩
def name0 : ByteArray := { data := #[72, 69, 65, 82, 84, 66, 69, 65, 84] }
def form0 : List (List Value) := [partL 1 false { data := #[116, 121, 112, 101] }, partL 1 false { data := #[97, 117, 116, 111, 112, 105, 108, 111, 116] }, partL 1 false { data := #[98, 97, 115, 101, 95, 109, 111, 100, 101] }, partL 4 false { data := #[99, 117, 115, 116, 111, 109, 95, 109, 111, 100, 101] }, partL 1 false { data := #[115, 121, 115, 116, 101, 109, 95, 115, 116, 97, 116, 117, 115] }, partL 1 false { data := #[109, 97, 118, 108, 105, 110, 107, 95, 118, 101, 114, 115, 105, 111, 110] }]
set_option maxRecDepth 20000 in
set_option maxHeartbeats 4000000 in
theorem s_state0 (w : World) : Calls Tryz.prog 65 #[.int .i64 0] w (FormOut name0 form0 w) := by
  have e0 := Blk.new w 154 #[.string { data := #[] }, .slice none 0 0]
  have hb := (Below.refl w.heap.size w).alloc (Nat.le_refl _) (.cells #[.string { data := #[] }, .slice none 0 0] 154)
  have hs : w.heap.size + 1 ≤ (w.alloc (.cells #[.string { data := #[] }, .slice none 0 0] 154)).heap.size := by simp
  have HO : Hid (∀ A' c' w', OTab 4 w' w.heap.size 190 A' 6 c' form0 → Below w.heap.size w w' → FormOut name0 form0 w (.returned (.agg #[.string name0, .slice A' 6 c'])) w') := hid fun A' c' w' h1 h2 => ⟨A', c', rfl, h1, h2⟩
  go_enter Tryz.func65, Tryz.ntmps65
  go_upto_region 1 with fail
  generalize w.alloc (.cells #[.string { data := #[] }, .slice none 0 0] 154) = W0 at *
  go_wp2_with fail
  have b1 := Blk.new W0 9 #[.string { data := #[116, 121, 112, 101] }, .string { data := #[97, 117, 116, 111, 112, 105, 108, 111, 116] }, .string { data := #[98, 97, 115, 101, 95, 109, 111, 100, 101] }]
  replace e0 := e0.alloc (.cells #[.string { data := #[116, 121, 112, 101] }, .string { data := #[97, 117, 116, 111, 112, 105, 108, 111, 116] }, .string { data := #[98, 97, 115, 101, 95, 109, 111, 100, 101] }] 9)
  replace hb := hb.alloc (by omega) (.cells #[.string { data := #[116, 121, 112, 101] }, .string { data := #[97, 117, 116, 111, 112, 105, 108, 111, 116] }, .string { data := #[98, 97, 115, 101, 95, 109, 111, 100, 101] }] 9)
  have hs1 := Nat.le_trans hs (show W0.heap.size ≤ (W0.alloc (.cells #[.string { data := #[116, 121, 112, 101] }, .string { data := #[97, 117, 116, 111, 112, 105, 108, 111, 116] }, .string { data := #[98, 97, 115, 101, 95, 109, 111, 100, 101] }] 9)).heap.size by simp)
  clear hs
  have hs := hs1
  clear hs1
  have hl1 : W0.heap.size < (W0.alloc (.cells #[.string { data := #[116, 121, 112, 101] }, .string { data := #[97, 117, 116, 111, 112, 105, 108, 111, 116] }, .string { data := #[98, 97, 115, 101, 95, 109, 111, 100, 101] }] 9)).heap.size := by simp
  generalize W0.alloc (.cells #[.string { data := #[116, 121, 112, 101] }, .string { data := #[97, 117, 116, 111, 112, 105, 108, 111, 116] }, .string { data := #[98, 97, 115, 101, 95, 109, 111, 100, 101] }] 9) = V1 at *
  generalize W0.heap.size = g1 at *
  refine (s_u8 (some ⟨g1, 0, none⟩) 3 [{ data := #[116, 121, 112, 101] }, { data := #[97, 117, 116, 111, 112, 105, 108, 111, 116] }, { data := #[98, 97, 115, 101, 95, 109, 111, 100, 101] }] V1 (Tab.blk b1 rfl (even_names _) rfl hl1) (by decide)).mono ?_
  clear b1 hl1
  intro e w1 hp
  obtain ⟨A1, c1, rfl, o1, k1⟩ := hp.to 3 rfl
  clear hp
  replace e0 := e0.below k1 e0.lt
  replace hb := hb.trans (k1.mono hb.size)
  have hq1 := k1.size
  replace hs : w.heap.size + 1 ≤ w1.heap.size := Nat.le_trans hs hq1
  have t1 := o1.tab
  clear o1 k1 hq1
  go_wp2_with fail
  have b2 := Blk.new w1 9 #[.string { data := #[99, 117, 115, 116, 111, 109, 95, 109, 111, 100, 101] }]
  replace e0 := e0.alloc (.cells #[.string { data := #[99, 117, 115, 116, 111, 109, 95, 109, 111, 100, 101] }] 9)
  replace hb := hb.alloc (by omega) (.cells #[.string { data := #[99, 117, 115, 116, 111, 109, 95, 109, 111, 100, 101] }] 9)
  have hs2 := Nat.le_trans hs (show w1.heap.size ≤ (w1.alloc (.cells #[.string { data := #[99, 117, 115, 116, 111, 109, 95, 109, 111, 100, 101] }] 9)).heap.size by simp)
  clear hs
  have hs := hs2
  clear hs2
  have hl2 : w1.heap.size < (w1.alloc (.cells #[.string { data := #[99, 117, 115, 116, 111, 109, 95, 109, 111, 100, 101] }] 9)).heap.size := by simp
  replace t1 := (t1.alloc (by omega) (.cells #[.string { data := #[99, 117, 115, 116, 111, 109, 95, 109, 111, 100, 101] }] 9)).more (show _ ≤ (w1.alloc (.cells #[.string { data := #[99, 117, 115, 116, 111, 109, 95, 109, 111, 100, 101] }] 9)).heap.size by simp)
  generalize w1.alloc (.cells #[.string { data := #[99, 117, 115, 116, 111, 109, 95, 109, 111, 100, 101] }] 9) = V2 at *
  generalize w1.heap.size = g2 at *
  refine (s_u32 (some ⟨g2, 0, none⟩) 1 [{ data := #[99, 117, 115, 116, 111, 109, 95, 109, 111, 100, 101] }] V2 (Tab.blk b2 rfl (even_names _) rfl hl2) (by decide)).mono ?_
  clear b2 hl2
  intro e w2 hp
  obtain ⟨A2, c2, rfl, o2, k2⟩ := hp.to 1 rfl
  clear hp
  replace e0 := e0.below k2 e0.lt
  replace hb := hb.trans (k2.mono hb.size)
  have hq2 := k2.size
  replace t1 := (t1.below k2).more k2.size
  replace hs : w.heap.size + 1 ≤ w2.heap.size := Nat.le_trans hs hq2
  have t2 := o2.tab
  clear o2 k2 hq2
  go_wp2_with fail
  have b3 := Blk.new w2 9 #[.string { data := #[115, 121, 115, 116, 101, 109, 95, 115, 116, 97, 116, 117, 115] }, .string { data := #[109, 97, 118, 108, 105, 110, 107, 95, 118, 101, 114, 115, 105, 111, 110] }]
  replace e0 := e0.alloc (.cells #[.string { data := #[115, 121, 115, 116, 101, 109, 95, 115, 116, 97, 116, 117, 115] }, .string { data := #[109, 97, 118, 108, 105, 110, 107, 95, 118, 101, 114, 115, 105, 111, 110] }] 9)
  replace hb := hb.alloc (by omega) (.cells #[.string { data := #[115, 121, 115, 116, 101, 109, 95, 115, 116, 97, 116, 117, 115] }, .string { data := #[109, 97, 118, 108, 105, 110, 107, 95, 118, 101, 114, 115, 105, 111, 110] }] 9)
  have hs3 := Nat.le_trans hs (show w2.heap.size ≤ (w2.alloc (.cells #[.string { data := #[115, 121, 115, 116, 101, 109, 95, 115, 116, 97, 116, 117, 115] }, .string { data := #[109, 97, 118, 108, 105, 110, 107, 95, 118, 101, 114, 115, 105, 111, 110] }] 9)).heap.size by simp)
  clear hs
  have hs := hs3
  clear hs3
  have hl3 : w2.heap.size < (w2.alloc (.cells #[.string { data := #[115, 121, 115, 116, 101, 109, 95, 115, 116, 97, 116, 117, 115] }, .string { data := #[109, 97, 118, 108, 105, 110, 107, 95, 118, 101, 114, 115, 105, 111, 110] }] 9)).heap.size := by simp
  replace t1 := (t1.alloc (by omega) (.cells #[.string { data := #[115, 121, 115, 116, 101, 109, 95, 115, 116, 97, 116, 117, 115] }, .string { data := #[109, 97, 118, 108, 105, 110, 107, 95, 118, 101, 114, 115, 105, 111, 110] }] 9)).more (show _ ≤ (w2.alloc (.cells #[.string { data := #[115, 121, 115, 116, 101, 109, 95, 115, 116, 97, 116, 117, 115] }, .string { data := #[109, 97, 118, 108, 105, 110, 107, 95, 118, 101, 114, 115, 105, 111, 110] }] 9)).heap.size by simp)
  replace t2 := (t2.alloc (by omega) (.cells #[.string { data := #[115, 121, 115, 116, 101, 109, 95, 115, 116, 97, 116, 117, 115] }, .string { data := #[109, 97, 118, 108, 105, 110, 107, 95, 118, 101, 114, 115, 105, 111, 110] }] 9)).more (show _ ≤ (w2.alloc (.cells #[.string { data := #[115, 121, 115, 116, 101, 109, 95, 115, 116, 97, 116, 117, 115] }, .string { data := #[109, 97, 118, 108, 105, 110, 107, 95, 118, 101, 114, 115, 105, 111, 110] }] 9)).heap.size by simp)
  generalize w2.alloc (.cells #[.string { data := #[115, 121, 115, 116, 101, 109, 95, 115, 116, 97, 116, 117, 115] }, .string { data := #[109, 97, 118, 108, 105, 110, 107, 95, 118, 101, 114, 115, 105, 111, 110] }] 9) = V3 at *
  generalize w2.heap.size = g3 at *
  refine (s_u8 (some ⟨g3, 0, none⟩) 2 [{ data := #[115, 121, 115, 116, 101, 109, 95, 115, 116, 97, 116, 117, 115] }, { data := #[109, 97, 118, 108, 105, 110, 107, 95, 118, 101, 114, 115, 105, 111, 110] }] V3 (Tab.blk b3 rfl (even_names _) rfl hl3) (by decide)).mono ?_
  clear b3 hl3
  intro e w3 hp
  obtain ⟨A3, c3, rfl, o3, k3⟩ := hp.to 2 rfl
  clear hp
  replace e0 := e0.below k3 e0.lt
  replace hb := hb.trans (k3.mono hb.size)
  have hq3 := k3.size
  replace t1 := (t1.below k3).more k3.size
  replace t2 := (t2.below k3).more k3.size
  replace hs : w.heap.size + 1 ≤ w3.heap.size := Nat.le_trans hs hq3
  have t3 := o3.tab
  clear o3 k3 hq3
  go_wp2_with fail
  have br := Blk.new w3 152 #[.slice A1 3 c1, .slice A2 1 c2, .slice A3 2 c3]
  replace e0 := e0.alloc (.cells #[.slice A1 3 c1, .slice A2 1 c2, .slice A3 2 c3] 152)
  replace hb := hb.alloc (by omega) (.cells #[.slice A1 3 c1, .slice A2 1 c2, .slice A3 2 c3] 152)
  have hsr := Nat.le_trans hs (show w3.heap.size ≤ (w3.alloc (.cells #[.slice A1 3 c1, .slice A2 1 c2, .slice A3 2 c3] 152)).heap.size by simp)
  clear hs
  have hl : w3.heap.size < (w3.alloc (.cells #[.slice A1 3 c1, .slice A2 1 c2, .slice A3 2 c3] 152)).heap.size := by simp
  replace t1 := (t1.alloc (by omega) (.cells #[.slice A1 3 c1, .slice A2 1 c2, .slice A3 2 c3] 152)).more (show _ ≤ (w3.alloc (.cells #[.slice A1 3 c1, .slice A2 1 c2, .slice A3 2 c3] 152)).heap.size by simp)
  replace t2 := (t2.alloc (by omega) (.cells #[.slice A1 3 c1, .slice A2 1 c2, .slice A3 2 c3] 152)).more (show _ ≤ (w3.alloc (.cells #[.slice A1 3 c1, .slice A2 1 c2, .slice A3 2 c3] 152)).heap.size by simp)
  replace t3 := (t3.alloc (by omega) (.cells #[.slice A1 3 c1, .slice A2 1 c2, .slice A3 2 c3] 152)).more (show _ ≤ (w3.alloc (.cells #[.slice A1 3 c1, .slice A2 1 c2, .slice A3 2 c3] 152)).heap.size by simp)
  generalize w3.alloc (.cells #[.slice A1 3 c1, .slice A2 1 c2, .slice A3 2 c3] 152) = VR at *
  generalize w3.heap.size = gr at *
  refine (s_of name0 ⟨gr, 0, none⟩ [(A1, 3, c1, [partL 1 false { data := #[116, 121, 112, 101] }, partL 1 false { data := #[97, 117, 116, 111, 112, 105, 108, 111, 116] }, partL 1 false { data := #[98, 97, 115, 101, 95, 109, 111, 100, 101] }]), (A2, 1, c2, [partL 4 false { data := #[99, 117, 115, 116, 111, 109, 95, 109, 111, 100, 101] }]), (A3, 2, c3, [partL 1 false { data := #[115, 121, 115, 116, 101, 109, 95, 115, 116, 97, 116, 117, 115] }, partL 1 false { data := #[109, 97, 118, 108, 105, 110, 107, 95, 118, 101, 114, 115, 105, 111, 110] }])] VR (RowsIn.three br hl t1 t2 t3) (show 3 ≤ 100 by omega) (show 6 ≤ 1000 by omega)).mono ?_
  intro e wf hp
  have hp2 : FormOut name0 form0 VR e wf := hp
  obtain ⟨A', c', rfl, o1, k1⟩ := hp2.to 6 rfl
  clear hp hp2 br hl t1 t2 t3
  replace o1 := o1.lower (by omega : w.heap.size ≤ VR.heap.size)
  replace e0 := e0.below k1 e0.lt
  replace hb := hb.trans (k1.mono hb.size)
  clear k1
  have z0 := e0.frozen 0
  have z1 := e0.frozen 1
  have q0 : wf.cell? ⟨w.heap.size, 0, none⟩ = some (.string { data := #[] }) := e0.cell 0
  have q1 : wf.cell? ⟨w.heap.size, 1, none⟩ = some (.slice none 0 0) := e0.cell 1
  have t0 := (e0.set_ 0 (.string name0)).set_ 1 (.slice A' 6 c')
  simp only [List.setIfInBounds_toArray, List.set_cons_zero, List.set_cons_succ] at t0
  have T2 := hid (((o1.kept (only_set (World.grownBy.refl wf _) 0 (.string name0)) (Or.inr (Ne.symm (o1.ne_ e0 (by decide)))))).kept (only_set (World.grownBy.refl _ _) 1 (.slice A' 6 c')) (Or.inr (Ne.symm (o1.ne_ e0 (by decide)))))
  have tb := (hb.setCell (p := ⟨w.heap.size, 0, none⟩) (by dsimp only; omega) (.string name0)).setCell (p := ⟨w.heap.size, 1, none⟩) (by dsimp only; omega) (.slice A' 6 c')
  clear o1
  go_wp2
  refine bodyPost_ret (results_cell_row rfl _ _ w.heap.size _ _ _ _ rfl t0 Tryz.underlying154 rfl (by kernel_rfl)) rfl ?_
  exact HO.out _ _ _ T2.out tb
def name200 : ByteArray := { data := #[65, 84, 84, 73, 84, 85, 68, 69, 95, 87, 79, 82, 68] }
def form200 : List (List Value) := [partL 4 false { data := #[116, 105, 109, 101, 95, 98, 111, 111, 116, 95, 109, 115] }, partL 4 false { data := #[113, 117, 97, 116, 101, 114, 110, 105, 111, 110] }, partL 2 true { data := #[120, 103, 121, 114, 111] }, partL 2 true { data := #[121, 103, 121, 114, 111] }, partL 2 true { data := #[122, 103, 121, 114, 111] }]
set_option maxRecDepth 20000 in
set_option maxHeartbeats 4000000 in
theorem s_own200 (w : World) : Calls Tryz.prog 68 #[.int .i64 200] w (FormOut name200 form200 w) := by
  have e0 := Blk.new w 154 #[.string { data := #[] }, .slice none 0 0]
  have hb := (Below.refl w.heap.size w).alloc (Nat.le_refl _) (.cells #[.string { data := #[] }, .slice none 0 0] 154)
  have hs : w.heap.size + 1 ≤ (w.alloc (.cells #[.string { data := #[] }, .slice none 0 0] 154)).heap.size := by simp
  have HO : Hid (∀ A' c' w', OTab 4 w' w.heap.size 190 A' 5 c' form200 → Below w.heap.size w w' → FormOut name200 form200 w (.returned (.agg #[.string name200, .slice A' 5 c'])) w') := hid fun A' c' w' h1 h2 => ⟨A', c', rfl, h1, h2⟩
  go_enter Tryz.func68, Tryz.ntmps68
  go_upto_region 1 with fail
  generalize w.alloc (.cells #[.string { data := #[] }, .slice none 0 0] 154) = W0 at *
  go_wp2_with fail
  have b1 := Blk.new W0 9 #[.string { data := #[116, 105, 109, 101, 95, 98, 111, 111, 116, 95, 109, 115] }, .string { data := #[113, 117, 97, 116, 101, 114, 110, 105, 111, 110] }]
  replace e0 := e0.alloc (.cells #[.string { data := #[116, 105, 109, 101, 95, 98, 111, 111, 116, 95, 109, 115] }, .string { data := #[113, 117, 97, 116, 101, 114, 110, 105, 111, 110] }] 9)
  replace hb := hb.alloc (by omega) (.cells #[.string { data := #[116, 105, 109, 101, 95, 98, 111, 111, 116, 95, 109, 115] }, .string { data := #[113, 117, 97, 116, 101, 114, 110, 105, 111, 110] }] 9)
  have hs1 := Nat.le_trans hs (show W0.heap.size ≤ (W0.alloc (.cells #[.string { data := #[116, 105, 109, 101, 95, 98, 111, 111, 116, 95, 109, 115] }, .string { data := #[113, 117, 97, 116, 101, 114, 110, 105, 111, 110] }] 9)).heap.size by simp)
  clear hs
  have hs := hs1
  clear hs1
  have hl1 : W0.heap.size < (W0.alloc (.cells #[.string { data := #[116, 105, 109, 101, 95, 98, 111, 111, 116, 95, 109, 115] }, .string { data := #[113, 117, 97, 116, 101, 114, 110, 105, 111, 110] }] 9)).heap.size := by simp
  generalize W0.alloc (.cells #[.string { data := #[116, 105, 109, 101, 95, 98, 111, 111, 116, 95, 109, 115] }, .string { data := #[113, 117, 97, 116, 101, 114, 110, 105, 111, 110] }] 9) = V1 at *
  generalize W0.heap.size = g1 at *
  refine (s_u32 (some ⟨g1, 0, none⟩) 2 [{ data := #[116, 105, 109, 101, 95, 98, 111, 111, 116, 95, 109, 115] }, { data := #[113, 117, 97, 116, 101, 114, 110, 105, 111, 110] }] V1 (Tab.blk b1 rfl (even_names _) rfl hl1) (by decide)).mono ?_
  clear b1 hl1
  intro e w1 hp
  obtain ⟨A1, c1, rfl, o1, k1⟩ := hp.to 2 rfl
  clear hp
  replace e0 := e0.below k1 e0.lt
  replace hb := hb.trans (k1.mono hb.size)
  have hq1 := k1.size
  replace hs : w.heap.size + 1 ≤ w1.heap.size := Nat.le_trans hs hq1
  have t1 := o1.tab
  clear o1 k1 hq1
  go_wp2_with fail
  have b2 := Blk.new w1 9 #[.string { data := #[120, 103, 121, 114, 111] }, .string { data := #[121, 103, 121, 114, 111] }, .string { data := #[122, 103, 121, 114, 111] }]
  replace e0 := e0.alloc (.cells #[.string { data := #[120, 103, 121, 114, 111] }, .string { data := #[121, 103, 121, 114, 111] }, .string { data := #[122, 103, 121, 114, 111] }] 9)
  replace hb := hb.alloc (by omega) (.cells #[.string { data := #[120, 103, 121, 114, 111] }, .string { data := #[121, 103, 121, 114, 111] }, .string { data := #[122, 103, 121, 114, 111] }] 9)
  have hs2 := Nat.le_trans hs (show w1.heap.size ≤ (w1.alloc (.cells #[.string { data := #[120, 103, 121, 114, 111] }, .string { data := #[121, 103, 121, 114, 111] }, .string { data := #[122, 103, 121, 114, 111] }] 9)).heap.size by simp)
  clear hs
  have hs := hs2
  clear hs2
  have hl2 : w1.heap.size < (w1.alloc (.cells #[.string { data := #[120, 103, 121, 114, 111] }, .string { data := #[121, 103, 121, 114, 111] }, .string { data := #[122, 103, 121, 114, 111] }] 9)).heap.size := by simp
  replace t1 := (t1.alloc (by omega) (.cells #[.string { data := #[120, 103, 121, 114, 111] }, .string { data := #[121, 103, 121, 114, 111] }, .string { data := #[122, 103, 121, 114, 111] }] 9)).more (show _ ≤ (w1.alloc (.cells #[.string { data := #[120, 103, 121, 114, 111] }, .string { data := #[121, 103, 121, 114, 111] }, .string { data := #[122, 103, 121, 114, 111] }] 9)).heap.size by simp)
  generalize w1.alloc (.cells #[.string { data := #[120, 103, 121, 114, 111] }, .string { data := #[121, 103, 121, 114, 111] }, .string { data := #[122, 103, 121, 114, 111] }] 9) = V2 at *
  generalize w1.heap.size = g2 at *
  refine (s_i16 (some ⟨g2, 0, none⟩) 3 [{ data := #[120, 103, 121, 114, 111] }, { data := #[121, 103, 121, 114, 111] }, { data := #[122, 103, 121, 114, 111] }] V2 (Tab.blk b2 rfl (even_names _) rfl hl2) (by decide)).mono ?_
  clear b2 hl2
  intro e w2 hp
  obtain ⟨A2, c2, rfl, o2, k2⟩ := hp.to 3 rfl
  clear hp
  replace e0 := e0.below k2 e0.lt
  replace hb := hb.trans (k2.mono hb.size)
  have hq2 := k2.size
  replace t1 := (t1.below k2).more k2.size
  replace hs : w.heap.size + 1 ≤ w2.heap.size := Nat.le_trans hs hq2
  have t2 := o2.tab
  clear o2 k2 hq2
  go_wp2_with fail
  have br := Blk.new w2 152 #[.slice A1 2 c1, .slice A2 3 c2]
  replace e0 := e0.alloc (.cells #[.slice A1 2 c1, .slice A2 3 c2] 152)
  replace hb := hb.alloc (by omega) (.cells #[.slice A1 2 c1, .slice A2 3 c2] 152)
  have hsr := Nat.le_trans hs (show w2.heap.size ≤ (w2.alloc (.cells #[.slice A1 2 c1, .slice A2 3 c2] 152)).heap.size by simp)
  clear hs
  have hl : w2.heap.size < (w2.alloc (.cells #[.slice A1 2 c1, .slice A2 3 c2] 152)).heap.size := by simp
  replace t1 := (t1.alloc (by omega) (.cells #[.slice A1 2 c1, .slice A2 3 c2] 152)).more (show _ ≤ (w2.alloc (.cells #[.slice A1 2 c1, .slice A2 3 c2] 152)).heap.size by simp)
  replace t2 := (t2.alloc (by omega) (.cells #[.slice A1 2 c1, .slice A2 3 c2] 152)).more (show _ ≤ (w2.alloc (.cells #[.slice A1 2 c1, .slice A2 3 c2] 152)).heap.size by simp)
  generalize w2.alloc (.cells #[.slice A1 2 c1, .slice A2 3 c2] 152) = VR at *
  generalize w2.heap.size = gr at *
  refine (s_of name200 ⟨gr, 0, none⟩ [(A1, 2, c1, [partL 4 false { data := #[116, 105, 109, 101, 95, 98, 111, 111, 116, 95, 109, 115] }, partL 4 false { data := #[113, 117, 97, 116, 101, 114, 110, 105, 111, 110] }]), (A2, 3, c2, [partL 2 true { data := #[120, 103, 121, 114, 111] }, partL 2 true { data := #[121, 103, 121, 114, 111] }, partL 2 true { data := #[122, 103, 121, 114, 111] }])] VR (RowsIn.two br hl t1 t2) (show 2 ≤ 100 by omega) (show 5 ≤ 1000 by omega)).mono ?_
  intro e wf hp
  have hp2 : FormOut name200 form200 VR e wf := hp
  obtain ⟨A', c', rfl, o1, k1⟩ := hp2.to 5 rfl
  clear hp hp2 br hl t1 t2
  replace o1 := o1.lower (by omega : w.heap.size ≤ VR.heap.size)
  replace e0 := e0.below k1 e0.lt
  replace hb := hb.trans (k1.mono hb.size)
  clear k1
  have z0 := e0.frozen 0
  have z1 := e0.frozen 1
  have q0 : wf.cell? ⟨w.heap.size, 0, none⟩ = some (.string { data := #[] }) := e0.cell 0
  have q1 : wf.cell? ⟨w.heap.size, 1, none⟩ = some (.slice none 0 0) := e0.cell 1
  have t0 := (e0.set_ 0 (.string name200)).set_ 1 (.slice A' 5 c')
  simp only [List.setIfInBounds_toArray, List.set_cons_zero, List.set_cons_succ] at t0
  have T2 := hid (((o1.kept (only_set (World.grownBy.refl wf _) 0 (.string name200)) (Or.inr (Ne.symm (o1.ne_ e0 (by decide)))))).kept (only_set (World.grownBy.refl _ _) 1 (.slice A' 5 c')) (Or.inr (Ne.symm (o1.ne_ e0 (by decide)))))
  have tb := (hb.setCell (p := ⟨w.heap.size, 0, none⟩) (by dsimp only; omega) (.string name200)).setCell (p := ⟨w.heap.size, 1, none⟩) (by dsimp only; omega) (.slice A' 5 c')
  clear o1
  go_wp2
  refine bodyPost_ret (results_cell_row rfl _ _ w.heap.size _ _ _ _ rfl t0 Tryz.underlying154 rfl (by kernel_rfl)) rfl ?_
  exact HO.out _ _ _ T2.out tb
theorem s_state200 (w : World) : Calls Tryz.prog 65 #[.int .i64 200] w fun e w' => e = .returned (.agg #[.string { data := #[] }, .slice none 0 0]) ∧ Below w.heap.size w w' := by
  have e0 := Blk.new w 154 #[.string { data := #[] }, .slice none 0 0]
  have hb := (Below.refl w.heap.size w).alloc (Nat.le_refl _) (.cells #[.string { data := #[] }, .slice none 0 0] 154)
  go_enter Tryz.func65, Tryz.ntmps65
  go_upto_region 1 with fail
  generalize w.alloc (.cells #[.string { data := #[] }, .slice none 0 0] 154) = W0 at *
  have z0 := e0.frozen 0
  have z1 := e0.frozen 1
  have q0 : W0.cell? ⟨w.heap.size, 0, none⟩ = some (.string { data := #[] }) := e0.cell 0
  have q1 : W0.cell? ⟨w.heap.size, 1, none⟩ = some (.slice none 0 0) := e0.cell 1
  have t0 := (e0.set_ 0 (.string { data := #[] })).set_ 1 (.slice none 0 0)
  simp only [List.setIfInBounds_toArray, List.set_cons_zero, List.set_cons_succ] at t0
  have tb := (hb.setCell (p := ⟨w.heap.size, 0, none⟩) (by dsimp only; omega) (.string { data := #[] })).setCell (p := ⟨w.heap.size, 1, none⟩) (by dsimp only; omega) (.slice none 0 0)
  go_wp2
  refine bodyPost_ret (results_cell_row rfl _ _ w.heap.size _ _ _ _ rfl t0 Tryz.underlying154 rfl (by kernel_rfl)) rfl ?_
  exact ⟨rfl, tb⟩
theorem s_sensed0 (w : World) : Calls Tryz.prog 66 #[.int .i64 0] w fun e w' => e = .returned (.agg #[.string { data := #[] }, .slice none 0 0]) ∧ Below w.heap.size w w' := by
  have e0 := Blk.new w 154 #[.string { data := #[] }, .slice none 0 0]
  have hb := (Below.refl w.heap.size w).alloc (Nat.le_refl _) (.cells #[.string { data := #[] }, .slice none 0 0] 154)
  go_enter Tryz.func66, Tryz.ntmps66
  go_upto_region 1 with fail
  generalize w.alloc (.cells #[.string { data := #[] }, .slice none 0 0] 154) = W0 at *
  have z0 := e0.frozen 0
  have z1 := e0.frozen 1
  have q0 : W0.cell? ⟨w.heap.size, 0, none⟩ = some (.string { data := #[] }) := e0.cell 0
  have q1 : W0.cell? ⟨w.heap.size, 1, none⟩ = some (.slice none 0 0) := e0.cell 1
  have t0 := (e0.set_ 0 (.string { data := #[] })).set_ 1 (.slice none 0 0)
  simp only [List.setIfInBounds_toArray, List.set_cons_zero, List.set_cons_succ] at t0
  have tb := (hb.setCell (p := ⟨w.heap.size, 0, none⟩) (by dsimp only; omega) (.string { data := #[] })).setCell (p := ⟨w.heap.size, 1, none⟩) (by dsimp only; omega) (.slice none 0 0)
  go_wp2
  refine bodyPost_ret (results_cell_row rfl _ _ w.heap.size _ _ _ _ rfl t0 Tryz.underlying154 rfl (by kernel_rfl)) rfl ?_
  exact ⟨rfl, tb⟩
theorem s_sensed200 (w : World) : Calls Tryz.prog 66 #[.int .i64 200] w fun e w' => e = .returned (.agg #[.string { data := #[] }, .slice none 0 0]) ∧ Below w.heap.size w w' := by
  have e0 := Blk.new w 154 #[.string { data := #[] }, .slice none 0 0]
  have hb := (Below.refl w.heap.size w).alloc (Nat.le_refl _) (.cells #[.string { data := #[] }, .slice none 0 0] 154)
  go_enter Tryz.func66, Tryz.ntmps66
  go_upto_region 1 with fail
  generalize w.alloc (.cells #[.string { data := #[] }, .slice none 0 0] 154) = W0 at *
  have z0 := e0.frozen 0
  have z1 := e0.frozen 1
  have q0 : W0.cell? ⟨w.heap.size, 0, none⟩ = some (.string { data := #[] }) := e0.cell 0
  have q1 : W0.cell? ⟨w.heap.size, 1, none⟩ = some (.slice none 0 0) := e0.cell 1
  have t0 := (e0.set_ 0 (.string { data := #[] })).set_ 1 (.slice none 0 0)
  simp only [List.setIfInBounds_toArray, List.set_cons_zero, List.set_cons_succ] at t0
  have tb := (hb.setCell (p := ⟨w.heap.size, 0, none⟩) (by dsimp only; omega) (.string { data := #[] })).setCell (p := ⟨w.heap.size, 1, none⟩) (by dsimp only; omega) (.slice none 0 0)
  go_wp2
  refine bodyPost_ret (results_cell_row rfl _ _ w.heap.size _ _ _ _ rfl t0 Tryz.underlying154 rfl (by kernel_rfl)) rfl ?_
  exact ⟨rfl, tb⟩
theorem s_asked0 (w : World) : Calls Tryz.prog 67 #[.int .i64 0] w fun e w' => e = .returned (.agg #[.string { data := #[] }, .slice none 0 0]) ∧ Below w.heap.size w w' := by
  have e0 := Blk.new w 154 #[.string { data := #[] }, .slice none 0 0]
  have hb := (Below.refl w.heap.size w).alloc (Nat.le_refl _) (.cells #[.string { data := #[] }, .slice none 0 0] 154)
  go_enter Tryz.func67, Tryz.ntmps67
  go_upto_region 1 with fail
  generalize w.alloc (.cells #[.string { data := #[] }, .slice none 0 0] 154) = W0 at *
  have z0 := e0.frozen 0
  have z1 := e0.frozen 1
  have q0 : W0.cell? ⟨w.heap.size, 0, none⟩ = some (.string { data := #[] }) := e0.cell 0
  have q1 : W0.cell? ⟨w.heap.size, 1, none⟩ = some (.slice none 0 0) := e0.cell 1
  have t0 := (e0.set_ 0 (.string { data := #[] })).set_ 1 (.slice none 0 0)
  simp only [List.setIfInBounds_toArray, List.set_cons_zero, List.set_cons_succ] at t0
  have tb := (hb.setCell (p := ⟨w.heap.size, 0, none⟩) (by dsimp only; omega) (.string { data := #[] })).setCell (p := ⟨w.heap.size, 1, none⟩) (by dsimp only; omega) (.slice none 0 0)
  go_wp2
  refine bodyPost_ret (results_cell_row rfl _ _ w.heap.size _ _ _ _ rfl t0 Tryz.underlying154 rfl (by kernel_rfl)) rfl ?_
  exact ⟨rfl, tb⟩
theorem s_asked200 (w : World) : Calls Tryz.prog 67 #[.int .i64 200] w fun e w' => e = .returned (.agg #[.string { data := #[] }, .slice none 0 0]) ∧ Below w.heap.size w w' := by
  have e0 := Blk.new w 154 #[.string { data := #[] }, .slice none 0 0]
  have hb := (Below.refl w.heap.size w).alloc (Nat.le_refl _) (.cells #[.string { data := #[] }, .slice none 0 0] 154)
  go_enter Tryz.func67, Tryz.ntmps67
  go_upto_region 1 with fail
  generalize w.alloc (.cells #[.string { data := #[] }, .slice none 0 0] 154) = W0 at *
  have z0 := e0.frozen 0
  have z1 := e0.frozen 1
  have q0 : W0.cell? ⟨w.heap.size, 0, none⟩ = some (.string { data := #[] }) := e0.cell 0
  have q1 : W0.cell? ⟨w.heap.size, 1, none⟩ = some (.slice none 0 0) := e0.cell 1
  have t0 := (e0.set_ 0 (.string { data := #[] })).set_ 1 (.slice none 0 0)
  simp only [List.setIfInBounds_toArray, List.set_cons_zero, List.set_cons_succ] at t0
  have tb := (hb.setCell (p := ⟨w.heap.size, 0, none⟩) (by dsimp only; omega) (.string { data := #[] })).setCell (p := ⟨w.heap.size, 1, none⟩) (by dsimp only; omega) (.slice none 0 0)
  go_wp2
  refine bodyPost_ret (results_cell_row rfl _ _ w.heap.size _ _ _ _ rfl t0 Tryz.underlying154 rfl (by kernel_rfl)) rfl ?_
  exact ⟨rfl, tb⟩
theorem s_own0 (w : World) : Calls Tryz.prog 68 #[.int .i64 0] w fun e w' => e = .returned (.agg #[.string { data := #[] }, .slice none 0 0]) ∧ Below w.heap.size w w' := by
  have e0 := Blk.new w 154 #[.string { data := #[] }, .slice none 0 0]
  have hb := (Below.refl w.heap.size w).alloc (Nat.le_refl _) (.cells #[.string { data := #[] }, .slice none 0 0] 154)
  go_enter Tryz.func68, Tryz.ntmps68
  go_upto_region 1 with fail
  generalize w.alloc (.cells #[.string { data := #[] }, .slice none 0 0] 154) = W0 at *
  have z0 := e0.frozen 0
  have z1 := e0.frozen 1
  have q0 : W0.cell? ⟨w.heap.size, 0, none⟩ = some (.string { data := #[] }) := e0.cell 0
  have q1 : W0.cell? ⟨w.heap.size, 1, none⟩ = some (.slice none 0 0) := e0.cell 1
  have t0 := (e0.set_ 0 (.string { data := #[] })).set_ 1 (.slice none 0 0)
  simp only [List.setIfInBounds_toArray, List.set_cons_zero, List.set_cons_succ] at t0
  have tb := (hb.setCell (p := ⟨w.heap.size, 0, none⟩) (by dsimp only; omega) (.string { data := #[] })).setCell (p := ⟨w.heap.size, 1, none⟩) (by dsimp only; omega) (.slice none 0 0)
  go_wp2
  refine bodyPost_ret (results_cell_row rfl _ _ w.heap.size _ _ _ _ rfl t0 Tryz.underlying154 rfl (by kernel_rfl)) rfl ?_
  exact ⟨rfl, tb⟩
end Go.Proofs.YtldoocndhfgjhaaGreat
