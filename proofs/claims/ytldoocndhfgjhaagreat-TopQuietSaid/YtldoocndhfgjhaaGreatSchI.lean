/- Chapter 31: the numbers of the two forms' bytes. -/
import Derived.Test.YtldoocndhfgjhaaGreatSchH
import Derived.Test.YtldoocndhfgjhaaGreatHeld
namespace Go.Proofs.YtldoocndhfgjhaaGreat
open Go.RowKit
set_option linter.unusedVariables false
set_option linter.unusedSimpArgs false

/-- The numbers in the message's own order, one by one. -/
def outP (ss : List (Int × Bool × Int)) (ws : List Int) (n : Nat) : Nat → List Int
  | 0 => List.replicate n 0
  | j + 1 => (outP ss ws n j).set (ss[j]?.getD (0, false, 0)).2.2.toNat (ws[j]?.getD 0)
theorem outP_len (ss : List (Int × Bool × Int)) (ws : List Int) (n j : Nat) : (outP ss ws n j).length = n := by
  induction j with
  | zero => simp [outP]
  | succ j ih => simp [outP, ih]
theorem outP_all0 (vs : List Int) (h : vs.length = 6) : outP ss0 (wireP ss0 vs) 6 6 = vs := by
  match vs, h with
  | [a, b, c, d, e, f], _ => rfl
theorem outP_all200 (vs : List Int) (h : vs.length = 5) : outP ss200 (wireP ss200 vs) 5 5 = vs := by
  match vs, h with
  | [a, b, c, d, e], _ => rfl
theorem TakeOut.lift {xs : List Int} {n : Nat} {w0 w w' : World} {e : Ending} (h : TakeOut xs n w e w') (hb : Below w0.heap.size w0 w) : TakeOut xs n w0 e w' := by
  obtain ⟨g, rfl, o, b⟩ := h
  exact ⟨g, rfl, own_lower o hb.size, hb.trans (b.mono hb.size)⟩
set_option maxRecDepth 20000 in
set_option maxHeartbeats 8000000 in
theorem sc_Take0 (bd : Addr) (cap L : Nat) (vs : List Int) (w : World) (hvs : vs.length = 6) (hLL : (putB fs0 (wireP ss0 vs) 6).length = L) (hv : Row .u8 w w.heap.size (some bd) L (putB fs0 (wireP ss0 vs) 6)) (hk : ∀ j, j < 6 → VK (fs0[j]?.getD (0, false)).1 (fs0[j]?.getD (0, false)).2 ((wireP ss0 vs)[j]?.getD 0)) :
    Calls Tryz.prog 24 #[.int .i64 0, .slice (some bd) L cap] w (TakeOut vs 6 w) := by
  obtain ⟨i0, hi, hz, hz1, hz2⟩ := info_parts3 info64
  have HX : Hid ((wireP ss0 vs).length = 6) := hid (by simp [wireP, ss0])
  have HOA := hid (outP_all0 vs hvs)
  have HK := hid hk
  have HV0 := hid hv
  have HLL := hid hLL
  clear hk hv hvs hLL
  have hne : (name0.toList == []) = false := by rw [ByteArray.toList_eq]; decide
  have hne2 : name0.toList.isEmpty = false := by rw [ByteArray.toList_eq]; decide
  have hne3 : name0.toList ≠ [] := by rw [ByteArray.toList_eq]; decide
  have HF := hid (s_find0 w)
  have HSL := hid fun A cap w (h : Tab 4 w w.heap.size A 6 (parts0.map partV)) => s_slots name0 A 6 cap parts0 w rfl h (by omega) (by omega) fk0
  generalize name0 = nm at *
  go_enter Tryz.func24, Tryz.ntmps24
  go_wp2_with fail
  refine HF.out.mono ?_
  intro e w1 hp
  obtain ⟨A1, c1, rfl, o1, b1⟩ := hp.to 6 rfl
  clear hp HF
  have hb := b1
  clear b1
  have t1 : Tab 4 w1 w1.heap.size A1 6 (parts0.map partV) := o1.tab
  clear o1
  have bf := Blk.new w1 154 #[.string nm, .slice A1 6 c1]
  replace t1 := (t1.alloc (Nat.le_refl _) (.cells #[.string nm, .slice A1 6 c1] 154)).more (show _ ≤ (w1.alloc (.cells #[.string nm, .slice A1 6 c1] 154)).heap.size by simp)
  replace hb := hb.alloc hb.size (.cells #[.string nm, .slice A1 6 c1] 154)
  go_upto_region 2 with fail
  generalize w1.alloc (.cells #[.string nm, .slice A1 6 c1] 154) = W1 at *
  generalize w1.heap.size = gf at *
  have q0 : W1.cell? ⟨gf, 0, none⟩ = some (.string nm) := bf.cell 0
  have q1 : W1.cell? ⟨gf, 1, none⟩ = some (.slice A1 6 c1) := bf.cell 1
  go_wp2_with fail
  clear q0 q1 bf
  refine (HSL.out A1 c1 W1 t1).mono ?_
  intro e w2 hp
  obtain ⟨g, X, c2, rfl, o3, o4, b2⟩ := SlotsOut.to0 hp
  clear hp t1 HSL
  replace o3 := o3.lower hb.size
  replace o4 := o4.lower hb.size
  replace hb := hb.trans (b2.mono hb.size)
  clear b2
  have HSS : Hid (ss0.length = 6) := rfl
  have HAT := hid at0
  have HFL : Hid (fs0.length = 6) := rfl
  generalize ss0 = ss at *
  generalize fs0 = fs at *
  generalize wireP ss vs = ws at *
  have HT := hid (sh_Take X bd 6 c2 cap L fs ws w2 HFL.out HX.out HLL.out o4.tab ((HV0.out.below hb).more hb.size) (by omega) (by omega) HK.out)
  go_wp2_with fail
  refine HT.out.mono ?_
  rintro e w3 ⟨gw, rfl, o5, b3⟩
  have hgw := o5.lt gw rfl
  replace o3 := o3.below b3 (Nat.le_refl _)
  replace o5 := own_lower o5 hb.size
  replace hb := hb.trans (b3.mono hb.size)
  clear b3 HT o4
  go_wp2_with (first
    | (at_make; refine wpList_makerow (k := .i64) rfl (.tmp 34) (.tmp 34) _ rfl 2 i0 Tryz.underlying29 hi hz hz1 8 hz2 6 _ rfl rfl rfl (by omega) (by omega) ?_; intro w4 eo hg3 hs3; have hb4 := hb.grown hg3 hb.size (fun k hk => by cases hk); have o34 := o3.kept hg3 (Or.inr (by simp [Value.ownBlock])); have o54 := o5.kept hg3 (Or.inr (by simp [Value.ownBlock]))))
  have hgo : w.heap.size ≤ w3.heap.size := hb.size
  have hgg : gw < w3.heap.size := hgw.2
  clear hb o3 o5 hgw
  generalize w3.heap.size = go at *
  go_loopw [38] (fun i wr => ∃ j : Nat, j ≤ 6 ∧ i = .int .i64 j ∧ Blk wr go 2 ((outP ss ws 6 j).map (Value.int .i64)).toArray ∧ OTab 3 wr w.heap.size 162 (some ⟨g, 0, none⟩) 6 6 (ss.map slotV) ∧ Own .i64 wr w.heap.size 2 (some ⟨gw, 0, none⟩) 6 6 ws ∧ Below w.heap.size w wr) (fun i _ => 6 - (intOf i).toNat)
  case atStart => exact ⟨0, Nat.zero_le _, rfl, by simpa [outP] using eo, o34, o54, hb4⟩
  case round =>
    clear eo o34 o54 hb4 hg3
    obtain ⟨j, hj, rfl, eo, o3, o5, hb⟩ := hrel
    by_cases hlt : j < 6
    · obtain ⟨⟨sz, sg, p⟩, hs⟩ : ∃ t, ss[j]? = some t := ⟨_, List.getElem?_eq_getElem (by rw [HSS.out]; exact hlt)⟩
      obtain ⟨ad, had, _, hcell⟩ := o3.tab.at_ (j := j) (p := slotV (sz, sg, p)) (by rw [List.getElem?_map, hs]; rfl)
      cases had
      have c0 := hcell 0 (.int .i64 sz) rfl
      have c1 := hcell 1 (.bool sg) rfl
      have c2' := hcell 2 (.int .i64 p) rfl
      rw [add0] at c0 c1 c2'
      rw [Nat.add_zero] at c0
      have hp := HAT.out _ (List.mem_of_getElem? hs)
      dsimp only at hp
      have HS : Hid (outP ss ws 6 (j + 1) = (outP ss ws 6 j).set p.toNat (ws[j]?.getD 0)) := hid (by show List.set _ _ _ = _; rw [hs]; rfl)
      have HD : Hid (∃ y, ((outP ss ws 6 j).map (Value.int .i64)).toArray[p.toNat]? = some (.int .i64 y)) := hid ⟨_, by rw [List.getElem?_toArray, List.getElem?_map, List.getElem?_eq_getElem (by rw [outP_len]; omega)]; rfl⟩
      have hcw : ∀ W, Own .i64 W w.heap.size 2 (some ⟨gw, 0, none⟩) 6 6 ws → W.cell? ⟨gw, j, none⟩ = some (.int .i64 (ws[j]?.getD 0)) := fun W h => h.cell hlt
      generalize ws[j]?.getD 0 = x at *
      have m1 : 6 - (j + 1) < 6 - j := by omega
      have j0 : (0 : Int) ≤ (j : Int) := by omega
      have j1 : (j : Int) < 6 := by omega
      have p0 : (0 : Int) ≤ p := hp.1
      have p1 : p < 6 := hp.2
      have hsz := hb.size
      clear hcell hs hp
      obtain ⟨y, hy⟩ := HD.out
      have HY := hid hy
      clear hy HD
      go_upto_region 12 with fail
      clear c0 c1 c2'
      have bf := Blk.new wr 162 #[.int .i64 sz, .bool sg, .int .i64 p]
      have hgl := eo.lt
      replace eo := eo.alloc (.cells #[.int .i64 sz, .bool sg, .int .i64 p] 162)
      replace o3 := o3.alloc (.cells #[.int .i64 sz, .bool sg, .int .i64 p] 162)
      replace o5 := o5.alloc (.cells #[.int .i64 sz, .bool sg, .int .i64 p] 162)
      replace hb := hb.alloc hsz (.cells #[.int .i64 sz, .bool sg, .int .i64 p] 162)
      generalize wr.alloc (.cells #[.int .i64 sz, .bool sg, .int .i64 p] 162) = W2 at *
      generalize wr.heap.size = gq at *
      refine wp_region_noPanic ?_
      refine wp_region_held_drew (S := (fun w' : World => w'.cell? ⟨gq, 2, none⟩ = some (.int .i64 p) ∧ w'.cell? ⟨gw, j, none⟩ = some (.int .i64 x))) (by kernel_rfl) ⟨bf.cell 2, hcw _ o5.drew⟩ (fun hHeld => ?_)
      refine (show wpAnyH _ _ _ _ _ 9 _ _ _ from ?_)
      try (simp only [Act.put, List.setIfInBounds_toArray, List.set_cons_zero, List.set_cons_succ])
      replace bf := bf.drew
      replace eo := eo.drew
      replace o3 := o3.drew
      replace o5 := o5.drew
      replace hb := hb.drew
      generalize W2.drew = V0 at *
      refine tk 0 hHeld ?_
      refine tk 1 hHeld ?_
      refine tk 2 hHeld ?_
      refine tk 3 hHeld ?_
      refine tk 4 hHeld ?_
      refine tk 5 hHeld ?_
      refine tk 6 hHeld ?_
      refine tk 7 hHeld ?_
      refine rd1 8 (fun K hK => ?_)
      have cc : V0.cell? ⟨go, p.toNat, none⟩ = some (.int .i64 y) := (eo.cell p.toNat).trans HY.out
      have zz := eo.frozen p.toNat
      go_simp
      try go_wp2_with fail
      clear cc zz
      have eo2 := eo.set_ p.toNat (.int .i64 x)
      rw [List.setIfInBounds_toArray, ← List.map_set, ← HS.out] at eo2
      replace o3 := o3.kept (only_set (World.grownBy.refl V0 _) p.toNat (.int .i64 x)) (Or.inr (Ne.symm (o3.ne_ eo (by decide))))
      have hne5 : (Value.slice (some ⟨gw, 0, none⟩) 6 6).ownBlock = none ∨ (Value.slice (some ⟨gw, 0, none⟩) 6 6).ownBlock ≠ some go := Or.inr (by simp [Value.ownBlock]; omega)
      replace o5 := o5.kept (only_set (World.grownBy.refl V0 (some go)) p.toNat (.int .i64 x)) hne5
      clear hne5
      replace bf := bf.far (p := ⟨go, p.toNat, none⟩) (by dsimp only; omega) (.int .i64 x)
      replace hb := hb.setCell (p := ⟨go, p.toNat, none⟩) (by dsimp only; omega) (.int .i64 x)
      clear eo
      generalize V0.setCell ⟨go, p.toNat, none⟩ (.int .i64 x) = V1 at *
      refine hK.out _ _ ⟨bf.cell 2, hcw _ o5⟩ (fun hHeld => ?_)
      clear hK K
      try (simp only [Act.put, List.setIfInBounds_toArray, List.set_cons_zero, List.set_cons_succ])
      refine wpAnyH_done (by kernel_rfl) ?_ _
      refine NoPanic.normal ?_
      clear hHeld bf
      go_wp2_with fail
      go_roundw
      case rel => exact ⟨j + 1, by omega, by go_num, eo2, o3, o5, hb⟩
      case measure => simpa [intOf] using m1
    · obtain rfl : j = 6 := by omega
      rw [HOA.out] at eo
      have hlen : vs.length = 6 := by rw [← HOA.out]; exact outP_len _ _ _ _
      have HE := hid (own_blk (base := w.heap.size) eo hlen (by omega) (by unfold maxLen; omega))
      clear eo o3 o5 hlen
      go_wp2
      go_ret2
      exact ⟨go, rfl, HE.out, hb⟩
set_option maxRecDepth 20000 in
set_option maxHeartbeats 8000000 in
theorem sc_Take200 (bd : Addr) (cap L : Nat) (vs : List Int) (w : World) (hvs : vs.length = 5) (hLL : (putB fs200 (wireP ss200 vs) 5).length = L) (hv : Row .u8 w w.heap.size (some bd) L (putB fs200 (wireP ss200 vs) 5)) (hk : ∀ j, j < 5 → VK (fs200[j]?.getD (0, false)).1 (fs200[j]?.getD (0, false)).2 ((wireP ss200 vs)[j]?.getD 0)) :
    Calls Tryz.prog 24 #[.int .i64 200, .slice (some bd) L cap] w (TakeOut vs 5 w) := by
  obtain ⟨i0, hi, hz, hz1, hz2⟩ := info_parts3 info64
  have HX : Hid ((wireP ss200 vs).length = 5) := hid (by simp [wireP, ss200])
  have HOA := hid (outP_all200 vs hvs)
  have HK := hid hk
  have HV0 := hid hv
  have HLL := hid hLL
  clear hk hv hvs hLL
  have hne : (name200.toList == []) = false := by rw [ByteArray.toList_eq]; decide
  have hne2 : name200.toList.isEmpty = false := by rw [ByteArray.toList_eq]; decide
  have hne3 : name200.toList ≠ [] := by rw [ByteArray.toList_eq]; decide
  have HF := hid (s_find200 w)
  have HSL := hid fun A cap w (h : Tab 4 w w.heap.size A 5 (parts200.map partV)) => s_slots name200 A 5 cap parts200 w rfl h (by omega) (by omega) fk200
  generalize name200 = nm at *
  go_enter Tryz.func24, Tryz.ntmps24
  go_wp2_with fail
  refine HF.out.mono ?_
  intro e w1 hp
  obtain ⟨A1, c1, rfl, o1, b1⟩ := hp.to 5 rfl
  clear hp HF
  have hb := b1
  clear b1
  have t1 : Tab 4 w1 w1.heap.size A1 5 (parts200.map partV) := o1.tab
  clear o1
  have bf := Blk.new w1 154 #[.string nm, .slice A1 5 c1]
  replace t1 := (t1.alloc (Nat.le_refl _) (.cells #[.string nm, .slice A1 5 c1] 154)).more (show _ ≤ (w1.alloc (.cells #[.string nm, .slice A1 5 c1] 154)).heap.size by simp)
  replace hb := hb.alloc hb.size (.cells #[.string nm, .slice A1 5 c1] 154)
  go_upto_region 2 with fail
  generalize w1.alloc (.cells #[.string nm, .slice A1 5 c1] 154) = W1 at *
  generalize w1.heap.size = gf at *
  have q0 : W1.cell? ⟨gf, 0, none⟩ = some (.string nm) := bf.cell 0
  have q1 : W1.cell? ⟨gf, 1, none⟩ = some (.slice A1 5 c1) := bf.cell 1
  go_wp2_with fail
  clear q0 q1 bf
  refine (HSL.out A1 c1 W1 t1).mono ?_
  intro e w2 hp
  obtain ⟨g, X, c2, rfl, o3, o4, b2⟩ := SlotsOut.to200 hp
  clear hp t1 HSL
  replace o3 := o3.lower hb.size
  replace o4 := o4.lower hb.size
  replace hb := hb.trans (b2.mono hb.size)
  clear b2
  have HSS : Hid (ss200.length = 5) := rfl
  have HAT := hid at200
  have HFL : Hid (fs200.length = 5) := rfl
  generalize ss200 = ss at *
  generalize fs200 = fs at *
  generalize wireP ss vs = ws at *
  have HT := hid (sh_Take X bd 5 c2 cap L fs ws w2 HFL.out HX.out HLL.out o4.tab ((HV0.out.below hb).more hb.size) (by omega) (by omega) HK.out)
  go_wp2_with fail
  refine HT.out.mono ?_
  rintro e w3 ⟨gw, rfl, o5, b3⟩
  have hgw := o5.lt gw rfl
  replace o3 := o3.below b3 (Nat.le_refl _)
  replace o5 := own_lower o5 hb.size
  replace hb := hb.trans (b3.mono hb.size)
  clear b3 HT o4
  go_wp2_with (first
    | (at_make; refine wpList_makerow (k := .i64) rfl (.tmp 34) (.tmp 34) _ rfl 2 i0 Tryz.underlying29 hi hz hz1 8 hz2 5 _ rfl rfl rfl (by omega) (by omega) ?_; intro w4 eo hg3 hs3; have hb4 := hb.grown hg3 hb.size (fun k hk => by cases hk); have o34 := o3.kept hg3 (Or.inr (by simp [Value.ownBlock])); have o54 := o5.kept hg3 (Or.inr (by simp [Value.ownBlock]))))
  have hgo : w.heap.size ≤ w3.heap.size := hb.size
  have hgg : gw < w3.heap.size := hgw.2
  clear hb o3 o5 hgw
  generalize w3.heap.size = go at *
  go_loopw [38] (fun i wr => ∃ j : Nat, j ≤ 5 ∧ i = .int .i64 j ∧ Blk wr go 2 ((outP ss ws 5 j).map (Value.int .i64)).toArray ∧ OTab 3 wr w.heap.size 162 (some ⟨g, 0, none⟩) 5 5 (ss.map slotV) ∧ Own .i64 wr w.heap.size 2 (some ⟨gw, 0, none⟩) 5 5 ws ∧ Below w.heap.size w wr) (fun i _ => 5 - (intOf i).toNat)
  case atStart => exact ⟨0, Nat.zero_le _, rfl, by simpa [outP] using eo, o34, o54, hb4⟩
  case round =>
    clear eo o34 o54 hb4 hg3
    obtain ⟨j, hj, rfl, eo, o3, o5, hb⟩ := hrel
    by_cases hlt : j < 5
    · obtain ⟨⟨sz, sg, p⟩, hs⟩ : ∃ t, ss[j]? = some t := ⟨_, List.getElem?_eq_getElem (by rw [HSS.out]; exact hlt)⟩
      obtain ⟨ad, had, _, hcell⟩ := o3.tab.at_ (j := j) (p := slotV (sz, sg, p)) (by rw [List.getElem?_map, hs]; rfl)
      cases had
      have c0 := hcell 0 (.int .i64 sz) rfl
      have c1 := hcell 1 (.bool sg) rfl
      have c2' := hcell 2 (.int .i64 p) rfl
      rw [add0] at c0 c1 c2'
      rw [Nat.add_zero] at c0
      have hp := HAT.out _ (List.mem_of_getElem? hs)
      dsimp only at hp
      have HS : Hid (outP ss ws 5 (j + 1) = (outP ss ws 5 j).set p.toNat (ws[j]?.getD 0)) := hid (by show List.set _ _ _ = _; rw [hs]; rfl)
      have HD : Hid (∃ y, ((outP ss ws 5 j).map (Value.int .i64)).toArray[p.toNat]? = some (.int .i64 y)) := hid ⟨_, by rw [List.getElem?_toArray, List.getElem?_map, List.getElem?_eq_getElem (by rw [outP_len]; omega)]; rfl⟩
      have hcw : ∀ W, Own .i64 W w.heap.size 2 (some ⟨gw, 0, none⟩) 5 5 ws → W.cell? ⟨gw, j, none⟩ = some (.int .i64 (ws[j]?.getD 0)) := fun W h => h.cell hlt
      generalize ws[j]?.getD 0 = x at *
      have m1 : 5 - (j + 1) < 5 - j := by omega
      have j0 : (0 : Int) ≤ (j : Int) := by omega
      have j1 : (j : Int) < 5 := by omega
      have p0 : (0 : Int) ≤ p := hp.1
      have p1 : p < 5 := hp.2
      have hsz := hb.size
      clear hcell hs hp
      obtain ⟨y, hy⟩ := HD.out
      have HY := hid hy
      clear hy HD
      go_upto_region 12 with fail
      clear c0 c1 c2'
      have bf := Blk.new wr 162 #[.int .i64 sz, .bool sg, .int .i64 p]
      have hgl := eo.lt
      replace eo := eo.alloc (.cells #[.int .i64 sz, .bool sg, .int .i64 p] 162)
      replace o3 := o3.alloc (.cells #[.int .i64 sz, .bool sg, .int .i64 p] 162)
      replace o5 := o5.alloc (.cells #[.int .i64 sz, .bool sg, .int .i64 p] 162)
      replace hb := hb.alloc hsz (.cells #[.int .i64 sz, .bool sg, .int .i64 p] 162)
      generalize wr.alloc (.cells #[.int .i64 sz, .bool sg, .int .i64 p] 162) = W2 at *
      generalize wr.heap.size = gq at *
      refine wp_region_noPanic ?_
      refine wp_region_held_drew (S := (fun w' : World => w'.cell? ⟨gq, 2, none⟩ = some (.int .i64 p) ∧ w'.cell? ⟨gw, j, none⟩ = some (.int .i64 x))) (by kernel_rfl) ⟨bf.cell 2, hcw _ o5.drew⟩ (fun hHeld => ?_)
      refine (show wpAnyH _ _ _ _ _ 9 _ _ _ from ?_)
      try (simp only [Act.put, List.setIfInBounds_toArray, List.set_cons_zero, List.set_cons_succ])
      replace bf := bf.drew
      replace eo := eo.drew
      replace o3 := o3.drew
      replace o5 := o5.drew
      replace hb := hb.drew
      generalize W2.drew = V0 at *
      refine tk 0 hHeld ?_
      refine tk 1 hHeld ?_
      refine tk 2 hHeld ?_
      refine tk 3 hHeld ?_
      refine tk 4 hHeld ?_
      refine tk 5 hHeld ?_
      refine tk 6 hHeld ?_
      refine tk 7 hHeld ?_
      refine rd1 8 (fun K hK => ?_)
      have cc : V0.cell? ⟨go, p.toNat, none⟩ = some (.int .i64 y) := (eo.cell p.toNat).trans HY.out
      have zz := eo.frozen p.toNat
      go_simp
      try go_wp2_with fail
      clear cc zz
      have eo2 := eo.set_ p.toNat (.int .i64 x)
      rw [List.setIfInBounds_toArray, ← List.map_set, ← HS.out] at eo2
      replace o3 := o3.kept (only_set (World.grownBy.refl V0 _) p.toNat (.int .i64 x)) (Or.inr (Ne.symm (o3.ne_ eo (by decide))))
      have hne5 : (Value.slice (some ⟨gw, 0, none⟩) 5 5).ownBlock = none ∨ (Value.slice (some ⟨gw, 0, none⟩) 5 5).ownBlock ≠ some go := Or.inr (by simp [Value.ownBlock]; omega)
      replace o5 := o5.kept (only_set (World.grownBy.refl V0 (some go)) p.toNat (.int .i64 x)) hne5
      clear hne5
      replace bf := bf.far (p := ⟨go, p.toNat, none⟩) (by dsimp only; omega) (.int .i64 x)
      replace hb := hb.setCell (p := ⟨go, p.toNat, none⟩) (by dsimp only; omega) (.int .i64 x)
      clear eo
      generalize V0.setCell ⟨go, p.toNat, none⟩ (.int .i64 x) = V1 at *
      refine hK.out _ _ ⟨bf.cell 2, hcw _ o5⟩ (fun hHeld => ?_)
      clear hK K
      try (simp only [Act.put, List.setIfInBounds_toArray, List.set_cons_zero, List.set_cons_succ])
      refine wpAnyH_done (by kernel_rfl) ?_ _
      refine NoPanic.normal ?_
      clear hHeld bf
      go_wp2_with fail
      go_roundw
      case rel => exact ⟨j + 1, by omega, by go_num, eo2, o3, o5, hb⟩
      case measure => simpa [intOf] using m1
    · obtain rfl : j = 5 := by omega
      rw [HOA.out] at eo
      have hlen : vs.length = 5 := by rw [← HOA.out]; exact outP_len _ _ _ _
      have HE := hid (own_blk (base := w.heap.size) eo hlen (by omega) (by unfold maxLen; omega))
      clear eo o3 o5 hlen
      go_wp2
      go_ret2
      exact ⟨go, rfl, HE.out, hb⟩
end Go.Proofs.YtldoocndhfgjhaaGreat
