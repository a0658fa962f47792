/- Chapter 31: parts in order. -/
import Derived.Test.YtldoocndhfgjhaaGreatStabB
import Derived.Test.YtldoocndhfgjhaaGreatSchF
import Derived.Deep.RegionHeld3
import Derived.Deep.CutRange
namespace Go.Proofs.YtldoocndhfgjhaaGreat
open Go.RowKit
set_option linter.unusedVariables false
set_option linter.unusedSimpArgs false

theorem pt_gt (sx sy : Int) (bx by_ : Bool) (nx ny : ByteArray) (w : World) : Calls Tryz.prog 97 #[.agg #[.string nx, .int .i64 sx, .bool bx, .int .i64 0], .agg #[.string ny, .int .i64 sy, .bool by_, .int .i64 0]] w fun e w' => e = .returned (.bool (decide (sy < sx))) ∧ Below w.heap.size w w' := by
  have e0 := (Blk.new w 190 #[.string nx, .int .i64 sx, .bool bx, .int .i64 0]).alloc (.cells #[.string ny, .int .i64 sy, .bool by_, .int .i64 0] 190)
  have e1 := Blk.new (w.alloc (.cells #[.string nx, .int .i64 sx, .bool bx, .int .i64 0] 190)) 190 #[.string ny, .int .i64 sy, .bool by_, .int .i64 0]
  simp only [World.size_alloc] at e1
  have hb := ((Below.refl w.heap.size w).alloc (Nat.le_refl _) (.cells #[.string nx, .int .i64 sx, .bool bx, .int .i64 0] 190)).alloc (by simp) (.cells #[.string ny, .int .i64 sy, .bool by_, .int .i64 0] 190)
  go_enter Tryz.func97, Tryz.ntmps97
  go_upto_region 1 with fail
  generalize (w.alloc (.cells #[.string nx, .int .i64 sx, .bool bx, .int .i64 0] 190)).alloc (.cells #[.string ny, .int .i64 sy, .bool by_, .int .i64 0] 190) = W at *
  have x1 : W.cell? ⟨w.heap.size, 1, none⟩ = some (.int .i64 sx) := e0.cell 1
  have y1 : W.cell? ⟨w.heap.size + 1, 1, none⟩ = some (.int .i64 sy) := e1.cell 1
  go_wp2
  go_ret
  exact ⟨rfl, hb⟩
theorem even_pt (l : List (Int × Bool × ByteArray)) : Even 4 (l.map partV) := by
  intro p hp
  obtain ⟨t, _, rfl⟩ := List.mem_map.1 hp
  refine ⟨rfl, fun u hu => ?_⟩
  simp [partV, partL] at hu
  rcases hu with rfl | rfl | rfl | rfl <;> rfl
theorem cell_of4 {w : World} {g : Nat} {l : List (Int × Bool × ByteArray)} {q : Nat} {t : (Int × Bool × ByteArray)} (hB : Blk w g 190 (l.map partV).flatten.toArray) (h : l[q]? = some t) (i : Nat) (u : Value) (hu : (partV t)[i]? = some u) : w.cell? ⟨g, q * 4 + i, none⟩ = some u := by
  rw [hB.cell]
  have := even_at (l.map partV) (even_pt l) q (partV t) (by rw [List.getElem?_map, h]; rfl) i u hu
  simpa using this
theorem cells_of4 {w : World} {g K q : Nat} {l : List (Int × Bool × ByteArray)} {sx sy : Int} {bx by_ : Bool} {nx ny : ByteArray} (hB : Blk w g 190 (l.map partV).flatten.toArray) (hx : l[q]? = some (sx, bx, nx)) (hy : l[K]? = some (sy, by_, ny)) : w.cell? ⟨g, K * 4, none⟩ = some (.string ny) ∧ w.cell? ⟨g, K * 4 + 1, none⟩ = some (.int .i64 sy) ∧ w.cell? ⟨g, K * 4 + 2, none⟩ = some (.bool by_) ∧ w.cell? ⟨g, K * 4 + 3, none⟩ = some (.int .i64 0) ∧ w.cell? ⟨g, q * 4, none⟩ = some (.string nx) ∧ w.cell? ⟨g, q * 4 + 1, none⟩ = some (.int .i64 sx) ∧ w.cell? ⟨g, q * 4 + 2, none⟩ = some (.bool bx) ∧ w.cell? ⟨g, q * 4 + 3, none⟩ = some (.int .i64 0) :=
  ⟨cell_of4 hB hy 0 _ rfl, cell_of4 hB hy 1 _ rfl, cell_of4 hB hy 2 _ rfl, cell_of4 hB hy 3 _ rfl, cell_of4 hB hx 0 _ rfl, cell_of4 hB hx 1 _ rfl, cell_of4 hB hx 2 _ rfl, cell_of4 hB hx 3 _ rfl⟩
theorem set_el4 (l : List (Int × Bool × ByteArray)) (j : Nat) (t : (Int × Bool × ByteArray)) (hj : j < l.length) (v0 : Value) (v1 : Value) (v2 : Value) (v3 : Value) (ht : partV t = [v0, v1, v2, v3]) : (((((l.map partV).flatten.toArray.setIfInBounds (j * 4) v0).setIfInBounds (j * 4 + 1) v1).setIfInBounds (j * 4 + 2) v2).setIfInBounds (j * 4 + 3) v3) = ((l.set j t).map partV).flatten.toArray := by
  rw [List.map_set, ht, ← flat_set4 (l.map partV) (even_pt l) j v0 v1 v2 v3 (by simpa using hj)]
  simp
theorem pt_info : (Tryz.prog.info? 190).map (fun i => (i.zero, i.size, i.bytes)) = some (some (.agg #[.string { data := #[] }, .int .i64 0, .bool false, .int .i64 0]), 4, 40) := by kernel_rfl
set_option maxRecDepth 20000 in
set_option maxHeartbeats 16000000 in
theorem pt_stable (ad : Addr) (cap : Nat) (ss : List (Int × Bool × ByteArray)) (w : World) (h : Tab 4 w w.heap.size (some ad) ss.length (ss.map partV)) (hn : ss.length ≤ 1000) :
    Calls Tryz.prog 96 #[.slice (some ad) ss.length cap, .func (.func 97) #[] #[]] w fun e w' => ∃ g, e = .returned (.slice (some ⟨g, 0, none⟩) ss.length ss.length) ∧ OTab 4 w' w.heap.size 190 (some ⟨g, 0, none⟩) ss.length ss.length ((stab (fun t => t.1) ss ss.length).map partV) ∧ Below w.heap.size w w' := by
  obtain ⟨i0, hi, hz, hz1, hz2⟩ := info_parts3 pt_info
  have hsz : (Tryz.prog.info? 190).map (·.size) = some 4 := by rw [hi]; simp [hz1]
  obtain ⟨n, hnn⟩ : ∃ n, ss.length = n := ⟨_, rfl⟩
  have HL := hid hnn
  have HO : Hid (∀ g w', Blk w' g 190 ((stab (fun t => t.1) ss n).map partV).flatten.toArray → w.heap.size ≤ g → OTab 4 w' w.heap.size 190 (some ⟨g, 0, none⟩) n n ((stab (fun t => t.1) ss n).map partV)) := hid fun g w' h1 h2 => OTab.blk h1 (even_pt _) (by rw [List.length_map, stab_len, hnn]) h2 (by unfold maxLen; omega)
  rw [hnn] at h hn ⊢
  clear hnn
  go_enter Tryz.func96, Tryz.ntmps96
  go_wp2_with (first
    | (at_make; refine wpList_makeW rfl (.tmp 9) (.tmp 9) _ rfl 190 i0 _ 4 40 Tryz.underlying152 hi hz hz1 hz2 n _ rfl rfl rfl (by omega) (by omega) ?_; intro w1 cur hb1 hc1 hg1 hs1; have be1 := (Below.refl w.heap.size w).grown hg1 (Nat.le_refl _) (fun k hk => by cases hk))
    | (refine wpList_copyW rfl (.tmp 11) (.tmp 12) _ _ rfl 190 Tryz.underlying152 4 hsz w.heap.size n cap ad rfl rfl cur _ hb1 hc1 w.heap.size _ (h.below be1) (by omega) ?_; intro w2 hB hg2; have hb := be1.grown hg2 be1.size (fun k hk => by cases hk; exact Nat.le_refl _)))
  clear h be1 hb1 hc1
  go_loopw [16] (fun i wr => ∃ m : Nat, m ≤ n ∧ i = .int .i64 m ∧ Blk wr w.heap.size 190 ((stab (fun t => t.1) ss m).map partV).flatten.toArray ∧ Below w.heap.size w wr) (fun i _ => n - (intOf i).toNat)
  case atStart => exact ⟨0, Nat.zero_le _, rfl, hB, hb⟩
  case round =>
    clear hB hb
    obtain ⟨m, hm, rfl, hB, hb⟩ := hrel
    by_cases hlt : m < n
    · have HSM : Hid (sink (fun t => t.1) m (stab (fun t => t.1) ss m) = stab (fun t => t.1) ss (m + 1)) := rfl
      have HLM : Hid ((stab (fun t => t.1) ss m).length = n) := hid (by rw [stab_len, HL.out])
      have m1 : n - (m + 1) < n - m := by omega
      have mlt : (m : Int) < (n : Int) := by omega
      generalize stab (fun t => t.1) ss m = l0 at *
      obtain ⟨lF, hF⟩ : ∃ lF, stab (fun t => t.1) ss (m + 1) = lF := ⟨_, rfl⟩
      have HF := hid hF
      rw [hF] at HSM
      clear hF
      go_wp2_with fail
      go_loopw [7] (fun k wr => ∃ (q : Nat) (l : List (Int × Bool × ByteArray)), q ≤ m ∧ k = .int .i64 q ∧ sink (fun t => t.1) q l = lF ∧ l.length = n ∧ Blk wr w.heap.size 190 (l.map partV).flatten.toArray ∧ Below w.heap.size w wr) (fun k _ => (intOf k).toNat)
      case atStart => exact ⟨m, l0, Nat.le_refl _, rfl, HSM.out, HLM.out, hB, hb⟩
      case round =>
        clear hB hb HSM HLM
        obtain ⟨q, l, hqm, rfl, hsk, hll, hB, hb⟩ := hrel
        have HSK := hid hsk
        have HLL := hid hll
        clear hsk
        cases q with
        | zero =>
          have HEQ : Hid (l = lF) := hid HSK.out
          clear hll
          go_upto_region 7 with fail
          refine wp_region_noPanic ?_
          refine wp_region_held_drew (S := (fun w' : World => True)) (by kernel_rfl) trivial (fun hHeld => ?_)
          refine (show wpAnyH _ _ _ _ _ 15 _ _ _ from ?_)
          try (simp only [Act.put, List.setIfInBounds_toArray, List.set_cons_zero, List.set_cons_succ])
          replace hB := hB.drew
          replace hb := hb.drew
          generalize wr.drew = V0 at *
          refine tk 0 hHeld ?_
          refine tk 1 hHeld ?_
          refine tk 2 hHeld ?_
          refine tkn 3 hHeld ?_
          refine tkn 4 hHeld ?_
          refine tkn 5 hHeld ?_
          refine tkn 6 hHeld ?_
          refine tkn 7 hHeld ?_
          refine tkn 8 hHeld ?_
          refine tkn 9 hHeld ?_
          refine tkn 10 hHeld ?_
          refine tkn 11 hHeld ?_
          refine tkn 12 hHeld ?_
          refine tkn 13 hHeld ?_
          refine tk 14 hHeld ?_
          refine wpAnyH_done (by kernel_rfl) ?_ _
          refine NoPanic.normal ?_
          clear hHeld
          go_wp2_with fail
          go_roundw
          case rel => exact ⟨m + 1, by omega, by go_num, by rw [HF.out, ← HEQ.out]; exact hB, hb⟩
          case measure => simpa [intOf] using m1
        | succ q =>
          obtain ⟨⟨sx, bx, nx⟩, hx⟩ : ∃ t, l[q]? = some t := ⟨_, List.getElem?_eq_getElem (by omega)⟩
          obtain ⟨⟨sy, by_, ny⟩, hy⟩ : ∃ t, l[q + 1]? = some t := ⟨_, List.getElem?_eq_getElem (by omega)⟩
          obtain ⟨K, hK⟩ : ∃ K, q + 1 = K := ⟨_, rfl⟩
          have HKq := hid hK
          have HY : Hid (l[K]? = some (sy, by_, ny)) := hid (by rw [← hK]; exact hy)
          have HX := hid hx
          have HG := hid fun w => pt_gt sy sx by_ bx ny nx w
          have k0 : decide ((0 : Int) < (K : Int)) = true := decide_eq_true (by omega)
          have k1 : (0 : Int) < (K : Int) := by omega
          have k9 : decide (0 < K) = true := decide_eq_true (by omega)
          have k10 : 0 < K := by omega
          have k2 : (0 : Int) ≤ (K : Int) := by omega
          have k3 : (K : Int) < (n : Int) := by omega
          have k4 : (0 : Int) ≤ (q : Int) := by omega
          have k5 : (q : Int) < (n : Int) := by omega
          have k6 : IntKind.i64.wrap ((K : Int) - 1) = (q : Int) := (IntWalk.i64_in _ (by omega)).trans (by omega)
          have k7 : wrap64 ((K : Int) - 1) = (q : Int) := (IntWalk.wrap64_in _ (by omega)).trans (by omega)
          have hKn : K < n := by omega
          have mq : q < K := by omega
          have hqm2 : q ≤ m := by omega
          have k8 : K * 4 + 0 = K * 4 := rfl
          rw [hK]
          clear hx hy hK hll hqm
          by_cases hgt : sx < sy
          · have HS1 : Hid ((((((l.map partV).flatten.toArray.setIfInBounds (K * 4) (.string nx)).setIfInBounds (K * 4 + 1) (.int .i64 sx)).setIfInBounds (K * 4 + 2) (.bool bx)).setIfInBounds (K * 4 + 3) (.int .i64 0)) = ((l.set K (sx, bx, nx)).map partV).flatten.toArray) := hid (set_el4 l K (sx, bx, nx) (by rw [HLL.out]; exact hKn) (.string nx) (.int .i64 sx) (.bool bx) (.int .i64 0) rfl)
            have HX2 : Hid ((l.set K (sx, bx, nx))[q]? = some (sx, bx, nx)) := hid (by rw [List.getElem?_set_ne (by omega)]; exact HX.out)
            have HS2 : Hid (((((((l.set K (sx, bx, nx)).map partV).flatten.toArray.setIfInBounds (q * 4) (.string ny)).setIfInBounds (q * 4 + 1) (.int .i64 sy)).setIfInBounds (q * 4 + 2) (.bool by_)).setIfInBounds (q * 4 + 3) (.int .i64 0)) = (((l.set K (sx, bx, nx)).set q (sy, by_, ny)).map partV).flatten.toArray) := hid (set_el4 (l.set K (sx, bx, nx)) q (sy, by_, ny) (by rw [List.length_set, HLL.out]; omega) (.string ny) (.int .i64 sy) (.bool by_) (.int .i64 0) rfl)
            have HL2 : Hid (((l.set K (sx, bx, nx)).set q (sy, by_, ny)).length = n) := hid (by rw [List.length_set, List.length_set, HLL.out])
            have HSK2 : Hid (sink (fun t => t.1) q ((l.set K (sx, bx, nx)).set q (sy, by_, ny)) = lF) := hid (by
              have h1 := sink_yes (fun t : (Int × Bool × ByteArray) => t.1) q l (sx, bx, nx) (sy, by_, ny) HX.out (by rw [HKq.out]; exact HY.out) hgt
              rw [HKq.out] at h1
              rw [← h1, ← HKq.out]
              exact HSK.out)
            have dg : decide (sx < sy) = true := decide_eq_true hgt
            clear HSK HLL
            go_upto_region 7 with fail
            refine wp_region_noPanic ?_
            refine wp_region_held_drew (S := (fun w' : World => w'.cell? ⟨w.heap.size, K * 4, none⟩ = some (.string ny) ∧ w'.cell? ⟨w.heap.size, K * 4 + 1, none⟩ = some (.int .i64 sy) ∧ w'.cell? ⟨w.heap.size, K * 4 + 2, none⟩ = some (.bool by_) ∧ w'.cell? ⟨w.heap.size, K * 4 + 3, none⟩ = some (.int .i64 0) ∧ w'.cell? ⟨w.heap.size, q * 4, none⟩ = some (.string nx) ∧ w'.cell? ⟨w.heap.size, q * 4 + 1, none⟩ = some (.int .i64 sx) ∧ w'.cell? ⟨w.heap.size, q * 4 + 2, none⟩ = some (.bool bx) ∧ w'.cell? ⟨w.heap.size, q * 4 + 3, none⟩ = some (.int .i64 0))) (by kernel_rfl) (cells_of4 hB HX.out HY.out) (fun hHeld => ?_)
            refine (show wpAnyH _ _ _ _ _ 15 _ _ _ from ?_)
            try (simp only [Act.put, List.setIfInBounds_toArray, List.set_cons_zero, List.set_cons_succ])
            replace hB := hB.drew
            replace hb := hb.drew
            generalize wr.drew = V0 at *
            refine tk 0 hHeld ?_
            refine tk 1 hHeld ?_
            refine tk 2 hHeld ?_
            refine tk 3 hHeld ?_
            refine tk 4 hHeld ?_
            refine tk 5 hHeld ?_
            refine tk 6 hHeld ?_
            refine tk 7 hHeld ?_
            refine tk 8 hHeld ?_
            refine tk 9 hHeld ?_
            refine tk 10 hHeld ?_
            refine tk 11 hHeld ?_
            refine tk 12 hHeld ?_
            refine rd1 13 (fun KK hKK => ?_)
            go_simp
            refine (HG.out _).mono ?_
            rintro e V1 ⟨rfl, b1⟩
            go_wp2_with fail
            replace hB := hB.below b1 hB.lt
            replace hb := hb.trans (b1.mono hb.size)
            clear b1
            refine hKK.out _ _ (cells_of4 hB HX.out HY.out) (fun hHeld => ?_)
            clear hKK KK
            try (simp only [Act.put, List.setIfInBounds_toArray, List.set_cons_zero, List.set_cons_succ])
            refine tk 14 hHeld ?_
            refine wpAnyH_done (by kernel_rfl) ?_ _
            refine NoPanic.normal ?_
            clear hHeld
            go_wp2_with fail
            go_upto_region 9 with fail
            refine wp_region_noPanic ?_
            refine wp_region_held_drew (S := (fun w' : World => True)) (by kernel_rfl) trivial (fun hHeld => ?_)
            refine (show wpAnyH _ _ _ _ _ 18 _ _ _ from ?_)
            try (simp only [Act.put, List.setIfInBounds_toArray, List.set_cons_zero, List.set_cons_succ])
            replace hB := hB.drew
            replace hb := hb.drew
            generalize V1.drew = V2 at *
            refine tk 0 hHeld ?_
            refine tk 1 hHeld ?_
            refine tk 2 hHeld ?_
            refine tk 3 hHeld ?_
            refine tk 4 hHeld ?_
            refine tk 5 hHeld ?_
            refine tk 6 hHeld ?_
            refine tk 7 hHeld ?_
            refine tk 8 hHeld ?_
            refine tk 10 hHeld ?_
            refine tk 11 hHeld ?_
            refine tk 12 hHeld ?_
            refine rd2 9 13 (fun K9 hK9 => ?ca) (fun K13 hK13 => ?cb)
            case ca =>
              have cc0 : V2.cell? ⟨w.heap.size, q * 4, none⟩ = some (.string nx) := cell_of4 hB HX.out 0 _ rfl
              have cc1 : V2.cell? ⟨w.heap.size, q * 4 + 1, none⟩ = some (.int .i64 sx) := cell_of4 hB HX.out 1 _ rfl
              have cc2 : V2.cell? ⟨w.heap.size, q * 4 + 2, none⟩ = some (.bool bx) := cell_of4 hB HX.out 2 _ rfl
              have cc3 : V2.cell? ⟨w.heap.size, q * 4 + 3, none⟩ = some (.int .i64 0) := cell_of4 hB HX.out 3 _ rfl
              go_simp
              try go_wp2_with fail
              clear cc0 cc1 cc2 cc3
              refine hK9.out _ _ trivial (fun hHeld => ?_)
              clear hK9 K9
              try (simp only [Act.put, List.setIfInBounds_toArray, List.set_cons_zero, List.set_cons_succ])
              refine rd1 13 (fun K13 hK13 => ?_)
              have cc0 : V2.cell? ⟨w.heap.size, K * 4, none⟩ = some (.string ny) := cell_of4 hB HY.out 0 _ rfl
              have cc1 : V2.cell? ⟨w.heap.size, K * 4 + 1, none⟩ = some (.int .i64 sy) := cell_of4 hB HY.out 1 _ rfl
              have cc2 : V2.cell? ⟨w.heap.size, K * 4 + 2, none⟩ = some (.bool by_) := cell_of4 hB HY.out 2 _ rfl
              have cc3 : V2.cell? ⟨w.heap.size, K * 4 + 3, none⟩ = some (.int .i64 0) := cell_of4 hB HY.out 3 _ rfl
              go_simp
              try go_wp2_with fail
              clear cc0 cc1 cc2 cc3
              refine hK13.out _ _ trivial (fun hHeld => ?_)
              clear hK13 K13
              try (simp only [Act.put, List.setIfInBounds_toArray, List.set_cons_zero, List.set_cons_succ])
              refine tk 14 hHeld ?_
              refine rd1 15 (fun KK hKK => ?_)
              have cc0 : V2.cell? ⟨w.heap.size, K * 4, none⟩ = some (.string ny) := cell_of4 hB HY.out 0 _ rfl
              have zz0 := hB.frozen (K * 4)
              have cc1 : V2.cell? ⟨w.heap.size, K * 4 + 1, none⟩ = some (.int .i64 sy) := cell_of4 hB HY.out 1 _ rfl
              have zz1 := hB.frozen (K * 4 + 1)
              have cc2 : V2.cell? ⟨w.heap.size, K * 4 + 2, none⟩ = some (.bool by_) := cell_of4 hB HY.out 2 _ rfl
              have zz2 := hB.frozen (K * 4 + 2)
              have cc3 : V2.cell? ⟨w.heap.size, K * 4 + 3, none⟩ = some (.int .i64 0) := cell_of4 hB HY.out 3 _ rfl
              have zz3 := hB.frozen (K * 4 + 3)
              go_simp
              try go_wp2_with fail
              clear cc0 zz0 cc1 zz1 cc2 zz2 cc3 zz3
              have hB2 := ((((hB.set_ (K * 4) (.string nx)).set_ (K * 4 + 1) (.int .i64 sx)).set_ (K * 4 + 2) (.bool bx)).set_ (K * 4 + 3) (.int .i64 0))
              rw [HS1.out] at hB2
              replace hb := ((((hb.setCell (p := ⟨w.heap.size, K * 4, none⟩) (by dsimp only; omega) (.string nx)).setCell (p := ⟨w.heap.size, K * 4 + 1, none⟩) (by dsimp only; omega) (.int .i64 sx)).setCell (p := ⟨w.heap.size, K * 4 + 2, none⟩) (by dsimp only; omega) (.bool bx)).setCell (p := ⟨w.heap.size, K * 4 + 3, none⟩) (by dsimp only; omega) (.int .i64 0))
              clear hB
              generalize ((((V2.setCell ⟨w.heap.size, K * 4, none⟩ (.string nx)).setCell ⟨w.heap.size, K * 4 + 1, none⟩ (.int .i64 sx)).setCell ⟨w.heap.size, K * 4 + 2, none⟩ (.bool bx)).setCell ⟨w.heap.size, K * 4 + 3, none⟩ (.int .i64 0)) = V3 at *
              refine hKK.out _ _ trivial (fun hHeld => ?_)
              clear hKK KK
              try (simp only [Act.put, List.setIfInBounds_toArray, List.set_cons_zero, List.set_cons_succ])
              refine tk 16 hHeld ?_
              refine rd1 17 (fun KK hKK => ?_)
              have cc0 : V3.cell? ⟨w.heap.size, q * 4, none⟩ = some (.string nx) := cell_of4 hB2 HX2.out 0 _ rfl
              have zz0 := hB2.frozen (q * 4)
              have cc1 : V3.cell? ⟨w.heap.size, q * 4 + 1, none⟩ = some (.int .i64 sx) := cell_of4 hB2 HX2.out 1 _ rfl
              have zz1 := hB2.frozen (q * 4 + 1)
              have cc2 : V3.cell? ⟨w.heap.size, q * 4 + 2, none⟩ = some (.bool bx) := cell_of4 hB2 HX2.out 2 _ rfl
              have zz2 := hB2.frozen (q * 4 + 2)
              have cc3 : V3.cell? ⟨w.heap.size, q * 4 + 3, none⟩ = some (.int .i64 0) := cell_of4 hB2 HX2.out 3 _ rfl
              have zz3 := hB2.frozen (q * 4 + 3)
              go_simp
              try go_wp2_with fail
              clear cc0 zz0 cc1 zz1 cc2 zz2 cc3 zz3
              have hB3 := ((((hB2.set_ (q * 4) (.string ny)).set_ (q * 4 + 1) (.int .i64 sy)).set_ (q * 4 + 2) (.bool by_)).set_ (q * 4 + 3) (.int .i64 0))
              rw [HS2.out] at hB3
              replace hb := ((((hb.setCell (p := ⟨w.heap.size, q * 4, none⟩) (by dsimp only; omega) (.string ny)).setCell (p := ⟨w.heap.size, q * 4 + 1, none⟩) (by dsimp only; omega) (.int .i64 sy)).setCell (p := ⟨w.heap.size, q * 4 + 2, none⟩) (by dsimp only; omega) (.bool by_)).setCell (p := ⟨w.heap.size, q * 4 + 3, none⟩) (by dsimp only; omega) (.int .i64 0))
              clear hB2
              generalize ((((V3.setCell ⟨w.heap.size, q * 4, none⟩ (.string ny)).setCell ⟨w.heap.size, q * 4 + 1, none⟩ (.int .i64 sy)).setCell ⟨w.heap.size, q * 4 + 2, none⟩ (.bool by_)).setCell ⟨w.heap.size, q * 4 + 3, none⟩ (.int .i64 0)) = V4 at *
              refine hKK.out _ _ trivial (fun hHeld => ?_)
              clear hKK KK
              try (simp only [Act.put, List.setIfInBounds_toArray, List.set_cons_zero, List.set_cons_succ])
              refine wpAnyH_done (by kernel_rfl) ?_ _
              refine NoPanic.normal ?_
              clear hHeld
              go_wp2_with fail
              go_roundw
              case rel => exact ⟨q, _, by omega, by go_num, HSK2.out, HL2.out, hB3, hb⟩
              case measure => simpa [intOf] using mq
            case cb =>
              have cc0 : V2.cell? ⟨w.heap.size, K * 4, none⟩ = some (.string ny) := cell_of4 hB HY.out 0 _ rfl
              have cc1 : V2.cell? ⟨w.heap.size, K * 4 + 1, none⟩ = some (.int .i64 sy) := cell_of4 hB HY.out 1 _ rfl
              have cc2 : V2.cell? ⟨w.heap.size, K * 4 + 2, none⟩ = some (.bool by_) := cell_of4 hB HY.out 2 _ rfl
              have cc3 : V2.cell? ⟨w.heap.size, K * 4 + 3, none⟩ = some (.int .i64 0) := cell_of4 hB HY.out 3 _ rfl
              go_simp
              try go_wp2_with fail
              clear cc0 cc1 cc2 cc3
              refine hK13.out _ _ trivial (fun hHeld => ?_)
              clear hK13 K13
              try (simp only [Act.put, List.setIfInBounds_toArray, List.set_cons_zero, List.set_cons_succ])
              refine rd1 9 (fun K9 hK9 => ?_)
              have cc0 : V2.cell? ⟨w.heap.size, q * 4, none⟩ = some (.string nx) := cell_of4 hB HX.out 0 _ rfl
              have cc1 : V2.cell? ⟨w.heap.size, q * 4 + 1, none⟩ = some (.int .i64 sx) := cell_of4 hB HX.out 1 _ rfl
              have cc2 : V2.cell? ⟨w.heap.size, q * 4 + 2, none⟩ = some (.bool bx) := cell_of4 hB HX.out 2 _ rfl
              have cc3 : V2.cell? ⟨w.heap.size, q * 4 + 3, none⟩ = some (.int .i64 0) := cell_of4 hB HX.out 3 _ rfl
              go_simp
              try go_wp2_with fail
              clear cc0 cc1 cc2 cc3
              refine hK9.out _ _ trivial (fun hHeld => ?_)
              clear hK9 K9
              try (simp only [Act.put, List.setIfInBounds_toArray, List.set_cons_zero, List.set_cons_succ])
              refine tk 14 hHeld ?_
              refine rd1 15 (fun KK hKK => ?_)
              have cc0 : V2.cell? ⟨w.heap.size, K * 4, none⟩ = some (.string ny) := cell_of4 hB HY.out 0 _ rfl
              have zz0 := hB.frozen (K * 4)
              have cc1 : V2.cell? ⟨w.heap.size, K * 4 + 1, none⟩ = some (.int .i64 sy) := cell_of4 hB HY.out 1 _ rfl
              have zz1 := hB.frozen (K * 4 + 1)
              have cc2 : V2.cell? ⟨w.heap.size, K * 4 + 2, none⟩ = some (.bool by_) := cell_of4 hB HY.out 2 _ rfl
              have zz2 := hB.frozen (K * 4 + 2)
              have cc3 : V2.cell? ⟨w.heap.size, K * 4 + 3, none⟩ = some (.int .i64 0) := cell_of4 hB HY.out 3 _ rfl
              have zz3 := hB.frozen (K * 4 + 3)
              go_simp
              try go_wp2_with fail
              clear cc0 zz0 cc1 zz1 cc2 zz2 cc3 zz3
              have hB2 := ((((hB.set_ (K * 4) (.string nx)).set_ (K * 4 + 1) (.int .i64 sx)).set_ (K * 4 + 2) (.bool bx)).set_ (K * 4 + 3) (.int .i64 0))
              rw [HS1.out] at hB2
              replace hb := ((((hb.setCell (p := ⟨w.heap.size, K * 4, none⟩) (by dsimp only; omega) (.string nx)).setCell (p := ⟨w.heap.size, K * 4 + 1, none⟩) (by dsimp only; omega) (.int .i64 sx)).setCell (p := ⟨w.heap.size, K * 4 + 2, none⟩) (by dsimp only; omega) (.bool bx)).setCell (p := ⟨w.heap.size, K * 4 + 3, none⟩) (by dsimp only; omega) (.int .i64 0))
              clear hB
              generalize ((((V2.setCell ⟨w.heap.size, K * 4, none⟩ (.string nx)).setCell ⟨w.heap.size, K * 4 + 1, none⟩ (.int .i64 sx)).setCell ⟨w.heap.size, K * 4 + 2, none⟩ (.bool bx)).setCell ⟨w.heap.size, K * 4 + 3, none⟩ (.int .i64 0)) = V3 at *
              refine hKK.out _ _ trivial (fun hHeld => ?_)
              clear hKK KK
              try (simp only [Act.put, List.setIfInBounds_toArray, List.set_cons_zero, List.set_cons_succ])
              refine tk 16 hHeld ?_
              refine rd1 17 (fun KK hKK => ?_)
              have cc0 : V3.cell? ⟨w.heap.size, q * 4, none⟩ = some (.string nx) := cell_of4 hB2 HX2.out 0 _ rfl
              have zz0 := hB2.frozen (q * 4)
              have cc1 : V3.cell? ⟨w.heap.size, q * 4 + 1, none⟩ = some (.int .i64 sx) := cell_of4 hB2 HX2.out 1 _ rfl
              have zz1 := hB2.frozen (q * 4 + 1)
              have cc2 : V3.cell? ⟨w.heap.size, q * 4 + 2, none⟩ = some (.bool bx) := cell_of4 hB2 HX2.out 2 _ rfl
              have zz2 := hB2.frozen (q * 4 + 2)
              have cc3 : V3.cell? ⟨w.heap.size, q * 4 + 3, none⟩ = some (.int .i64 0) := cell_of4 hB2 HX2.out 3 _ rfl
              have zz3 := hB2.frozen (q * 4 + 3)
              go_simp
              try go_wp2_with fail
              clear cc0 zz0 cc1 zz1 cc2 zz2 cc3 zz3
              have hB3 := ((((hB2.set_ (q * 4) (.string ny)).set_ (q * 4 + 1) (.int .i64 sy)).set_ (q * 4 + 2) (.bool by_)).set_ (q * 4 + 3) (.int .i64 0))
              rw [HS2.out] at hB3
              replace hb := ((((hb.setCell (p := ⟨w.heap.size, q * 4, none⟩) (by dsimp only; omega) (.string ny)).setCell (p := ⟨w.heap.size, q * 4 + 1, none⟩) (by dsimp only; omega) (.int .i64 sy)).setCell (p := ⟨w.heap.size, q * 4 + 2, none⟩) (by dsimp only; omega) (.bool by_)).setCell (p := ⟨w.heap.size, q * 4 + 3, none⟩) (by dsimp only; omega) (.int .i64 0))
              clear hB2
              generalize ((((V3.setCell ⟨w.heap.size, q * 4, none⟩ (.string ny)).setCell ⟨w.heap.size, q * 4 + 1, none⟩ (.int .i64 sy)).setCell ⟨w.heap.size, q * 4 + 2, none⟩ (.bool by_)).setCell ⟨w.heap.size, q * 4 + 3, none⟩ (.int .i64 0)) = V4 at *
              refine hKK.out _ _ trivial (fun hHeld => ?_)
              clear hKK KK
              try (simp only [Act.put, List.setIfInBounds_toArray, List.set_cons_zero, List.set_cons_succ])
              refine wpAnyH_done (by kernel_rfl) ?_ _
              refine NoPanic.normal ?_
              clear hHeld
              go_wp2_with fail
              go_roundw
              case rel => exact ⟨q, _, by omega, by go_num, HSK2.out, HL2.out, hB3, hb⟩
              case measure => simpa [intOf] using mq
          · have HEQ : Hid (l = lF) := hid (by
              have h1 := sink_no (fun t : (Int × Bool × ByteArray) => t.1) q l (sx, bx, nx) (sy, by_, ny) HX.out (by rw [HKq.out]; exact HY.out) hgt
              rw [← h1]
              exact HSK.out)
            have dg : decide (sx < sy) = false := decide_eq_false hgt
            go_upto_region 7 with fail
            refine wp_region_noPanic ?_
            refine wp_region_held_drew (S := (fun w' : World => w'.cell? ⟨w.heap.size, K * 4, none⟩ = some (.string ny) ∧ w'.cell? ⟨w.heap.size, K * 4 + 1, none⟩ = some (.int .i64 sy) ∧ w'.cell? ⟨w.heap.size, K * 4 + 2, none⟩ = some (.bool by_) ∧ w'.cell? ⟨w.heap.size, K * 4 + 3, none⟩ = some (.int .i64 0) ∧ w'.cell? ⟨w.heap.size, q * 4, none⟩ = some (.string nx) ∧ w'.cell? ⟨w.heap.size, q * 4 + 1, none⟩ = some (.int .i64 sx) ∧ w'.cell? ⟨w.heap.size, q * 4 + 2, none⟩ = some (.bool bx) ∧ w'.cell? ⟨w.heap.size, q * 4 + 3, none⟩ = some (.int .i64 0))) (by kernel_rfl) (cells_of4 hB HX.out HY.out) (fun hHeld => ?_)
            refine (show wpAnyH _ _ _ _ _ 15 _ _ _ from ?_)
            try (simp only [Act.put, List.setIfInBounds_toArray, List.set_cons_zero, List.set_cons_succ])
            replace hB := hB.drew
            replace hb := hb.drew
            generalize wr.drew = V0 at *
            refine tk 0 hHeld ?_
            refine tk 1 hHeld ?_
            refine tk 2 hHeld ?_
            refine tk 3 hHeld ?_
            refine tk 4 hHeld ?_
            refine tk 5 hHeld ?_
            refine tk 6 hHeld ?_
            refine tk 7 hHeld ?_
            refine tk 8 hHeld ?_
            refine tk 9 hHeld ?_
            refine tk 10 hHeld ?_
            refine tk 11 hHeld ?_
            refine tk 12 hHeld ?_
            refine rd1 13 (fun KK hKK => ?_)
            go_simp
            refine (HG.out _).mono ?_
            rintro e V1 ⟨rfl, b1⟩
            go_wp2_with fail
            replace hB := hB.below b1 hB.lt
            replace hb := hb.trans (b1.mono hb.size)
            clear b1
            refine hKK.out _ _ (cells_of4 hB HX.out HY.out) (fun hHeld => ?_)
            clear hKK KK
            try (simp only [Act.put, List.setIfInBounds_toArray, List.set_cons_zero, List.set_cons_succ])
            refine tk 14 hHeld ?_
            refine wpAnyH_done (by kernel_rfl) ?_ _
            refine NoPanic.normal ?_
            clear hHeld
            go_wp2_with fail
            go_roundw
            case rel => exact ⟨m + 1, by omega, by go_num, by rw [HF.out, ← HEQ.out]; exact hB, hb⟩
            case measure => simpa [intOf] using m1
    · obtain rfl : m = n := by omega
      go_wp2
      go_ret
      exact ⟨w.heap.size, rfl, HO.out _ _ hB (Nat.le_refl _), hb⟩
end Go.Proofs.YtldoocndhfgjhaaGreat
