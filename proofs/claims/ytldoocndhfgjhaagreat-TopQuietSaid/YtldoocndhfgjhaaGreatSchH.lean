/- Chapter 31: the bytes of the two forms' numbers. -/
import Derived.Test.YtldoocndhfgjhaaGreatSchG
import Derived.Test.YtldoocndhfgjhaaGreatShpE
namespace Go.Proofs.YtldoocndhfgjhaaGreat
open Go.RowKit
set_option linter.unusedVariables false
set_option linter.unusedSimpArgs false

/-- The numbers as on the wire. -/
def wireP (ss : List (Int × Bool × Int)) (vs : List Int) : List Int := ss.map fun t => vs[t.2.2.toNat]?.getD 0
theorem wire_at (ss : List (Int × Bool × Int)) (vs : List Int) (j : Nat) (t : Int × Bool × Int) (h : ss[j]? = some t) : (wireP ss vs)[j]?.getD 0 = vs[t.2.2.toNat]?.getD 0 := by
  unfold wireP
  rw [List.getElem?_map, h]; rfl
def ss0 : List (Int × Bool × Int) := [(4, false, 3), (1, false, 0), (1, false, 1), (1, false, 2), (1, false, 4), (1, false, 5)]
def fs0 : List (Int × Bool) := [(4, false), (1, false), (1, false), (1, false), (1, false), (1, false)]
theorem ss_is0 : stab (fun t => t.1) (slotsOf parts0 6) 6 = ss0 := by decide
theorem fs_is0 : ss0.map fieldOf = fs0.map fieldV := rfl
theorem fk0 : ∀ t ∈ parts0, FK t.1 t.2.1 := by
  unfold FK
  decide
theorem at0 : ∀ t ∈ ss0, 0 ≤ t.2.2 ∧ t.2.2 < 6 := by decide
theorem SlotsOut.to0 {w w' : World} {e : Ending} (h : SlotsOut parts0 6 w e w') : ∃ g X c, e = .returned (.tuple #[.slice (some ⟨g, 0, none⟩) 6 6, .slice X 6 c]) ∧ OTab 3 w' w.heap.size 162 (some ⟨g, 0, none⟩) 6 6 (ss0.map slotV) ∧ OTab 4 w' w.heap.size 200 X 6 c (fs0.map fieldV) ∧ Below w.heap.size w w' := by
  unfold SlotsOut at h
  rw [ss_is0, fs_is0] at h
  exact h
def ss200 : List (Int × Bool × Int) := [(4, false, 0), (4, false, 1), (2, true, 2), (2, true, 3), (2, true, 4)]
def fs200 : List (Int × Bool) := [(4, false), (4, false), (2, true), (2, true), (2, true)]
theorem ss_is200 : stab (fun t => t.1) (slotsOf parts200 5) 5 = ss200 := by decide
theorem fs_is200 : ss200.map fieldOf = fs200.map fieldV := rfl
theorem fk200 : ∀ t ∈ parts200, FK t.1 t.2.1 := by
  unfold FK
  decide
theorem at200 : ∀ t ∈ ss200, 0 ≤ t.2.2 ∧ t.2.2 < 5 := by decide
theorem SlotsOut.to200 {w w' : World} {e : Ending} (h : SlotsOut parts200 5 w e w') : ∃ g X c, e = .returned (.tuple #[.slice (some ⟨g, 0, none⟩) 5 5, .slice X 5 c]) ∧ OTab 3 w' w.heap.size 162 (some ⟨g, 0, none⟩) 5 5 (ss200.map slotV) ∧ OTab 4 w' w.heap.size 200 X 5 c (fs200.map fieldV) ∧ Below w.heap.size w w' := by
  unfold SlotsOut at h
  rw [ss_is200, fs_is200] at h
  exact h
set_option maxRecDepth 20000 in
set_option maxHeartbeats 8000000 in
theorem sc_Put0 (B : Option Addr) (cap : Nat) (vs : List Int) (w : World) (hv : Row .i64 w w.heap.size B 6 vs) (hk : ∀ j, j < 6 → VK (fs0[j]?.getD (0, false)).1 (fs0[j]?.getD (0, false)).2 ((wireP ss0 vs)[j]?.getD 0)) :
    Calls Tryz.prog 131 #[.int .i64 0, .slice B 6 cap] w (PutOut (putB fs0 (wireP ss0 vs) 6) w) := by
  obtain ⟨i0, hi, hz, hz1, hz2⟩ := info_parts3 info64
  have HX : Hid ((wireP ss0 vs).length = 6) := hid (by simp [wireP, ss0])
  have HK := hid hk
  have HV0 := hid hv
  clear hk hv
  have hne : (name0.toList == []) = false := by rw [ByteArray.toList_eq]; decide
  have hne2 : name0.toList.isEmpty = false := by rw [ByteArray.toList_eq]; decide
  have hne3 : name0.toList ≠ [] := by rw [ByteArray.toList_eq]; decide
  have HF := hid (s_find0 w)
  have HSL := hid fun A cap w (h : Tab 4 w w.heap.size A 6 (parts0.map partV)) => s_slots name0 A 6 cap parts0 w rfl h (by omega) (by omega) fk0
  generalize name0 = nm at *
  go_enter Tryz.func131, Tryz.ntmps131
  go_wp2_with fail
  refine HF.out.mono ?_
  intro e w1 hp
  obtain ⟨A1, c1, rfl, o1, b1⟩ := hp.to 6 rfl
  clear hp HF
  have hb := b1
  clear b1
  have t1 : Tab 4 w1 w1.heap.size A1 6 (parts0.map partV) := o1.tab
  clear o1
  have bf := Blk.new w1 154 #[.string nm, .slice A1 6 c1]
  replace t1 := (t1.alloc (Nat.le_refl _) (.cells #[.string nm, .slice A1 6 c1] 154)).more (show _ ≤ (w1.alloc (.cells #[.string nm, .slice A1 6 c1] 154)).heap.size by simp)
  replace hb := hb.alloc hb.size (.cells #[.string nm, .slice A1 6 c1] 154)
  go_upto_region 2 with fail
  generalize w1.alloc (.cells #[.string nm, .slice A1 6 c1] 154) = W1 at *
  generalize w1.heap.size = gf at *
  have q0 : W1.cell? ⟨gf, 0, none⟩ = some (.string nm) := bf.cell 0
  have q1 : W1.cell? ⟨gf, 1, none⟩ = some (.slice A1 6 c1) := bf.cell 1
  go_wp2_with fail
  clear q0 q1
  refine (HSL.out A1 c1 W1 t1).mono ?_
  intro e w2 hp
  obtain ⟨g, X, c2, rfl, o3, o4, b2⟩ := SlotsOut.to0 hp
  clear hp t1 HSL
  replace o3 := o3.lower hb.size
  replace o4 := o4.lower hb.size
  replace bf := bf.below b2 bf.lt
  replace hb := hb.trans (b2.mono hb.size)
  clear b2
  have q0 : w2.cell? ⟨gf, 0, none⟩ = some (.string nm) := bf.cell 0
  go_wp2_with (first
    | (at_make; refine wpList_makerow (k := .i64) rfl (.tmp 30) (.tmp 30) _ rfl 2 i0 Tryz.underlying29 hi hz hz1 8 hz2 6 _ rfl rfl rfl (by omega) (by omega) ?_; intro w3 eo hg3 hs3; have hb3 := hb.grown hg3 hb.size (fun k hk => by cases hk); have o33 := o3.kept hg3 (Or.inr (by simp [Value.ownBlock])); have o43 := o4.kept hg3 (by cases X; exact Or.inl rfl; exact Or.inr (by simp [Value.ownBlock]))))
  clear q0 bf o3 o4
  have hgo : w.heap.size ≤ w2.heap.size := hb.size
  clear hb hg3
  generalize w2.heap.size = go at *
  have HSS : Hid (ss0.length = 6) := rfl
  have HAT := hid at0
  have HFL : Hid (fs0.length = 6) := rfl
  have HWA := hid fun j t h => wire_at ss0 vs j t h
  have hrep : (List.replicate 6 (Value.int .i64 0)).toArray = ((List.take 0 (wireP ss0 vs) ++ List.replicate (6 - 0) 0).map (Value.int .i64)).toArray := by simp
  rw [hrep] at eo
  clear hrep
  generalize ss0 = ss at *
  generalize fs0 = fs at *
  generalize wireP ss vs = ws at *
  go_loopw [34] (fun i wr => ∃ j : Nat, j ≤ 6 ∧ i = .int .i64 j ∧ Blk wr go 2 ((ws.take j ++ List.replicate (6 - j) 0).map (Value.int .i64)).toArray ∧ OTab 3 wr w.heap.size 162 (some ⟨g, 0, none⟩) 6 6 (ss.map slotV) ∧ OTab 4 wr w.heap.size 200 X 6 c2 (fs.map fieldV) ∧ Below w.heap.size w wr) (fun i _ => 6 - (intOf i).toNat)
  case atStart => exact ⟨0, Nat.zero_le _, rfl, eo, o33, o43, hb3⟩
  case round =>
    clear eo o33 o43 hb3
    obtain ⟨j, hj, rfl, eo, o3, o4, hb⟩ := hrel
    by_cases hlt : j < 6
    · obtain ⟨⟨sz, sg, p⟩, hs⟩ : ∃ t, ss[j]? = some t := ⟨_, List.getElem?_eq_getElem (by rw [HSS.out]; exact hlt)⟩
      obtain ⟨ad, had, _, hcell⟩ := o3.tab.at_ (j := j) (p := slotV (sz, sg, p)) (by rw [List.getElem?_map, hs]; rfl)
      cases had
      have c0 := hcell 0 (.int .i64 sz) rfl
      have c1 := hcell 1 (.bool sg) rfl
      have c2' := hcell 2 (.int .i64 p) rfl
      rw [add0] at c0 c1 c2'
      rw [Nat.add_zero] at c0
      have hp := HAT.out _ (List.mem_of_getElem? hs)
      dsimp only at hp
      obtain ⟨ax, rfl, _⟩ := (HV0.out.below hb).at_ (j := p.toNat) (by omega)
      have hvx : ∀ W', Below w.heap.size w W' → W'.cell? (ax.add p.toNat) = some (.int .i64 (vs[p.toNat]?.getD 0)) := fun W' hb' => ((HV0.out.below hb').2.2 ax rfl p.toNat (by omega)).2
      have HWX := hid (HWA.out j _ hs)
      dsimp only at HWX
      have HS := hid (out_set ws 6 j HX.out hlt)
      have HD := hid (out_old ws 6 j HX.out hlt)
      rw [HWX.out] at HS
      generalize vs[p.toNat]?.getD 0 = x at *
      have m1 : 6 - (j + 1) < 6 - j := by omega
      have j0 : (0 : Int) ≤ (j : Int) := by omega
      have j1 : (j : Int) < 6 := by omega
      have p0 : (0 : Int) ≤ p := hp.1
      have p1 : p < 6 := hp.2
      have hsz := hb.size
      clear hcell hs hp
      obtain ⟨co2, hco2⟩ : ∃ co, List.map (Value.int .i64) (List.take (j + 1) ws ++ List.replicate (6 - (j + 1)) 0) = co := ⟨_, rfl⟩
      rw [hco2] at HS
      have HC2 := hid hco2
      clear hco2
      generalize List.map (Value.int .i64) (List.take j ws ++ List.replicate (6 - j) 0) = co1 at *
      go_upto_region 11 with fail
      clear c0 c1 c2'
      have bf := Blk.new wr 162 #[.int .i64 sz, .bool sg, .int .i64 p]
      have hgl := eo.lt
      replace eo := eo.alloc (.cells #[.int .i64 sz, .bool sg, .int .i64 p] 162)
      replace o3 := o3.alloc (.cells #[.int .i64 sz, .bool sg, .int .i64 p] 162)
      replace o4 := o4.alloc (.cells #[.int .i64 sz, .bool sg, .int .i64 p] 162)
      replace hb := hb.alloc hsz (.cells #[.int .i64 sz, .bool sg, .int .i64 p] 162)
      generalize wr.alloc (.cells #[.int .i64 sz, .bool sg, .int .i64 p] 162) = W2 at *
      generalize wr.heap.size = gq at *
      have c2' : W2.cell? ⟨gq, 2, none⟩ = some (.int .i64 p) := bf.cell 2
      have cx := hvx _ hb
      have cc : W2.cell? ⟨go, j, none⟩ = some (.int .i64 0) := (eo.cell j).trans HD.out
      have zz := eo.frozen j
      go_wp2_with fail
      clear c2' cx cc zz
      have eo2 := eo.set_ j (.int .i64 x)
      rw [HS.out] at eo2
      have o32 := o3.kept (only_set (World.grownBy.refl W2 _) j (.int .i64 x)) (Or.inr (Ne.symm (o3.ne_ eo (by decide))))
      have o42 := o4.kept (only_set (World.grownBy.refl W2 _) j (.int .i64 x)) (Or.inr (Ne.symm (o4.ne_ eo (by decide))))
      have hb2 := hb.setCell (p := ⟨go, j, none⟩) (by dsimp only; omega) (.int .i64 x)
      go_roundw
      case rel => exact ⟨j + 1, by omega, by go_num, by rw [HC2.out]; exact eo2, o32, o42, hb2⟩
      case measure => simpa [intOf] using m1
    · obtain rfl : j = 6 := by omega
      have e : ws.take 6 ++ List.replicate (6 - 6) 0 = ws := by rw [List.take_of_length_le (by rw [HX.out]; exact Nat.le_refl _)]; simp
      rw [e] at eo
      have hrow := Row.blk (B := wr.heap.size) eo rfl eo.lt
      rw [HX.out] at hrow
      have HP := hid (sh_Put X (some ⟨go, 0, none⟩) 6 c2 6 fs ws wr HFL.out HX.out o4.tab hrow (by omega) (by omega) HK.out)
      have hsz := hb.size
      have HB := hid hb
      clear e eo o3 o4 hrow hb
      generalize putB fs ws 6 = bs at *
      go_wp2_with fail
      refine HP.out.mono ?_
      rintro e w5 ⟨Y, d, rfl, o5, b5⟩
      have H5 := hid (own_lower o5 hsz)
      have H6 := hid (HB.out.trans (b5.mono hsz))
      have HO : Hid (∀ L, bs.length = L → PutOut bs w (.returned (.tuple #[.slice Y L d, .int .i64 0])) w5) := hid fun L hL => by subst hL; exact ⟨Y, d, rfl, H5.out, H6.out⟩
      obtain ⟨L, hL⟩ : ∃ L, bs.length = L := ⟨_, rfl⟩
      have HLh := hid hL
      rw [hL]
      clear hL o5 b5
      go_wp2
      go_ret2
      exact HO.out L HLh.out
set_option maxRecDepth 20000 in
set_option maxHeartbeats 8000000 in
theorem sc_Put200 (B : Option Addr) (cap : Nat) (vs : List Int) (w : World) (hv : Row .i64 w w.heap.size B 5 vs) (hk : ∀ j, j < 5 → VK (fs200[j]?.getD (0, false)).1 (fs200[j]?.getD (0, false)).2 ((wireP ss200 vs)[j]?.getD 0)) :
    Calls Tryz.prog 131 #[.int .i64 200, .slice B 5 cap] w (PutOut (putB fs200 (wireP ss200 vs) 5) w) := by
  obtain ⟨i0, hi, hz, hz1, hz2⟩ := info_parts3 info64
  have HX : Hid ((wireP ss200 vs).length = 5) := hid (by simp [wireP, ss200])
  have HK := hid hk
  have HV0 := hid hv
  clear hk hv
  have hne : (name200.toList == []) = false := by rw [ByteArray.toList_eq]; decide
  have hne2 : name200.toList.isEmpty = false := by rw [ByteArray.toList_eq]; decide
  have hne3 : name200.toList ≠ [] := by rw [ByteArray.toList_eq]; decide
  have HF := hid (s_find200 w)
  have HSL := hid fun A cap w (h : Tab 4 w w.heap.size A 5 (parts200.map partV)) => s_slots name200 A 5 cap parts200 w rfl h (by omega) (by omega) fk200
  generalize name200 = nm at *
  go_enter Tryz.func131, Tryz.ntmps131
  go_wp2_with fail
  refine HF.out.mono ?_
  intro e w1 hp
  obtain ⟨A1, c1, rfl, o1, b1⟩ := hp.to 5 rfl
  clear hp HF
  have hb := b1
  clear b1
  have t1 : Tab 4 w1 w1.heap.size A1 5 (parts200.map partV) := o1.tab
  clear o1
  have bf := Blk.new w1 154 #[.string nm, .slice A1 5 c1]
  replace t1 := (t1.alloc (Nat.le_refl _) (.cells #[.string nm, .slice A1 5 c1] 154)).more (show _ ≤ (w1.alloc (.cells #[.string nm, .slice A1 5 c1] 154)).heap.size by simp)
  replace hb := hb.alloc hb.size (.cells #[.string nm, .slice A1 5 c1] 154)
  go_upto_region 2 with fail
  generalize w1.alloc (.cells #[.string nm, .slice A1 5 c1] 154) = W1 at *
  generalize w1.heap.size = gf at *
  have q0 : W1.cell? ⟨gf, 0, none⟩ = some (.string nm) := bf.cell 0
  have q1 : W1.cell? ⟨gf, 1, none⟩ = some (.slice A1 5 c1) := bf.cell 1
  go_wp2_with fail
  clear q0 q1
  refine (HSL.out A1 c1 W1 t1).mono ?_
  intro e w2 hp
  obtain ⟨g, X, c2, rfl, o3, o4, b2⟩ := SlotsOut.to200 hp
  clear hp t1 HSL
  replace o3 := o3.lower hb.size
  replace o4 := o4.lower hb.size
  replace bf := bf.below b2 bf.lt
  replace hb := hb.trans (b2.mono hb.size)
  clear b2
  have q0 : w2.cell? ⟨gf, 0, none⟩ = some (.string nm) := bf.cell 0
  go_wp2_with (first
    | (at_make; refine wpList_makerow (k := .i64) rfl (.tmp 30) (.tmp 30) _ rfl 2 i0 Tryz.underlying29 hi hz hz1 8 hz2 5 _ rfl rfl rfl (by omega) (by omega) ?_; intro w3 eo hg3 hs3; have hb3 := hb.grown hg3 hb.size (fun k hk => by cases hk); have o33 := o3.kept hg3 (Or.inr (by simp [Value.ownBlock])); have o43 := o4.kept hg3 (by cases X; exact Or.inl rfl; exact Or.inr (by simp [Value.ownBlock]))))
  clear q0 bf o3 o4
  have hgo : w.heap.size ≤ w2.heap.size := hb.size
  clear hb hg3
  generalize w2.heap.size = go at *
  have HSS : Hid (ss200.length = 5) := rfl
  have HAT := hid at200
  have HFL : Hid (fs200.length = 5) := rfl
  have HWA := hid fun j t h => wire_at ss200 vs j t h
  have hrep : (List.replicate 5 (Value.int .i64 0)).toArray = ((List.take 0 (wireP ss200 vs) ++ List.replicate (5 - 0) 0).map (Value.int .i64)).toArray := by simp
  rw [hrep] at eo
  clear hrep
  generalize ss200 = ss at *
  generalize fs200 = fs at *
  generalize wireP ss vs = ws at *
  go_loopw [34] (fun i wr => ∃ j : Nat, j ≤ 5 ∧ i = .int .i64 j ∧ Blk wr go 2 ((ws.take j ++ List.replicate (5 - j) 0).map (Value.int .i64)).toArray ∧ OTab 3 wr w.heap.size 162 (some ⟨g, 0, none⟩) 5 5 (ss.map slotV) ∧ OTab 4 wr w.heap.size 200 X 5 c2 (fs.map fieldV) ∧ Below w.heap.size w wr) (fun i _ => 5 - (intOf i).toNat)
  case atStart => exact ⟨0, Nat.zero_le _, rfl, eo, o33, o43, hb3⟩
  case round =>
    clear eo o33 o43 hb3
    obtain ⟨j, hj, rfl, eo, o3, o4, hb⟩ := hrel
    by_cases hlt : j < 5
    · obtain ⟨⟨sz, sg, p⟩, hs⟩ : ∃ t, ss[j]? = some t := ⟨_, List.getElem?_eq_getElem (by rw [HSS.out]; exact hlt)⟩
      obtain ⟨ad, had, _, hcell⟩ := o3.tab.at_ (j := j) (p := slotV (sz, sg, p)) (by rw [List.getElem?_map, hs]; rfl)
      cases had
      have c0 := hcell 0 (.int .i64 sz) rfl
      have c1 := hcell 1 (.bool sg) rfl
      have c2' := hcell 2 (.int .i64 p) rfl
      rw [add0] at c0 c1 c2'
      rw [Nat.add_zero] at c0
      have hp := HAT.out _ (List.mem_of_getElem? hs)
      dsimp only at hp
      obtain ⟨ax, rfl, _⟩ := (HV0.out.below hb).at_ (j := p.toNat) (by omega)
      have hvx : ∀ W', Below w.heap.size w W' → W'.cell? (ax.add p.toNat) = some (.int .i64 (vs[p.toNat]?.getD 0)) := fun W' hb' => ((HV0.out.below hb').2.2 ax rfl p.toNat (by omega)).2
      have HWX := hid (HWA.out j _ hs)
      dsimp only at HWX
      have HS := hid (out_set ws 5 j HX.out hlt)
      have HD := hid (out_old ws 5 j HX.out hlt)
      rw [HWX.out] at HS
      generalize vs[p.toNat]?.getD 0 = x at *
      have m1 : 5 - (j + 1) < 5 - j := by omega
      have j0 : (0 : Int) ≤ (j : Int) := by omega
      have j1 : (j : Int) < 5 := by omega
      have p0 : (0 : Int) ≤ p := hp.1
      have p1 : p < 5 := hp.2
      have hsz := hb.size
      clear hcell hs hp
      obtain ⟨co2, hco2⟩ : ∃ co, List.map (Value.int .i64) (List.take (j + 1) ws ++ List.replicate (5 - (j + 1)) 0) = co := ⟨_, rfl⟩
      rw [hco2] at HS
      have HC2 := hid hco2
      clear hco2
      generalize List.map (Value.int .i64) (List.take j ws ++ List.replicate (5 - j) 0) = co1 at *
      go_upto_region 11 with fail
      clear c0 c1 c2'
      have bf := Blk.new wr 162 #[.int .i64 sz, .bool sg, .int .i64 p]
      have hgl := eo.lt
      replace eo := eo.alloc (.cells #[.int .i64 sz, .bool sg, .int .i64 p] 162)
      replace o3 := o3.alloc (.cells #[.int .i64 sz, .bool sg, .int .i64 p] 162)
      replace o4 := o4.alloc (.cells #[.int .i64 sz, .bool sg, .int .i64 p] 162)
      replace hb := hb.alloc hsz (.cells #[.int .i64 sz, .bool sg, .int .i64 p] 162)
      generalize wr.alloc (.cells #[.int .i64 sz, .bool sg, .int .i64 p] 162) = W2 at *
      generalize wr.heap.size = gq at *
      have c2' : W2.cell? ⟨gq, 2, none⟩ = some (.int .i64 p) := bf.cell 2
      have cx := hvx _ hb
      have cc : W2.cell? ⟨go, j, none⟩ = some (.int .i64 0) := (eo.cell j).trans HD.out
      have zz := eo.frozen j
      go_wp2_with fail
      clear c2' cx cc zz
      have eo2 := eo.set_ j (.int .i64 x)
      rw [HS.out] at eo2
      have o32 := o3.kept (only_set (World.grownBy.refl W2 _) j (.int .i64 x)) (Or.inr (Ne.symm (o3.ne_ eo (by decide))))
      have o42 := o4.kept (only_set (World.grownBy.refl W2 _) j (.int .i64 x)) (Or.inr (Ne.symm (o4.ne_ eo (by decide))))
      have hb2 := hb.setCell (p := ⟨go, j, none⟩) (by dsimp only; omega) (.int .i64 x)
      go_roundw
      case rel => exact ⟨j + 1, by omega, by go_num, by rw [HC2.out]; exact eo2, o32, o42, hb2⟩
      case measure => simpa [intOf] using m1
    · obtain rfl : j = 5 := by omega
      have e : ws.take 5 ++ List.replicate (5 - 5) 0 = ws := by rw [List.take_of_length_le (by rw [HX.out]; exact Nat.le_refl _)]; simp
      rw [e] at eo
      have hrow := Row.blk (B := wr.heap.size) eo rfl eo.lt
      rw [HX.out] at hrow
      have HP := hid (sh_Put X (some ⟨go, 0, none⟩) 5 c2 5 fs ws wr HFL.out HX.out o4.tab hrow (by omega) (by omega) HK.out)
      have hsz := hb.size
      have HB := hid hb
      clear e eo o3 o4 hrow hb
      generalize putB fs ws 5 = bs at *
      go_wp2_with fail
      refine HP.out.mono ?_
      rintro e w5 ⟨Y, d, rfl, o5, b5⟩
      have H5 := hid (own_lower o5 hsz)
      have H6 := hid (HB.out.trans (b5.mono hsz))
      have HO : Hid (∀ L, bs.length = L → PutOut bs w (.returned (.tuple #[.slice Y L d, .int .i64 0])) w5) := hid fun L hL => by subst hL; exact ⟨Y, d, rfl, H5.out, H6.out⟩
      obtain ⟨L, hL⟩ : ∃ L, bs.length = L := ⟨_, rfl⟩
      have HLh := hid hL
      rw [hL]
      clear hL o5 b5
      go_wp2
      go_ret2
      exact HO.out L HLh.out
end Go.Proofs.YtldoocndhfgjhaaGreat
