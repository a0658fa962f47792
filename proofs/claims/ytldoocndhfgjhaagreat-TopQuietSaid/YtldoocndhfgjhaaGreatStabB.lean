/- Chapter 31: slots in order. -/
import Derived.Test.YtldoocndhfgjhaaGreatStab
import Derived.Test.YtldoocndhfgjhaaGreatHeld
import Derived.Deep.RegionHeld3
import Derived.Deep.CutRange
namespace Go.Proofs.YtldoocndhfgjhaaGreat
open Go.RowKit
set_option linter.unusedVariables false
set_option linter.unusedSimpArgs false

/-- An operation that is not wanted is passed over. -/
theorem tkn {P : Program} {md : Region.Mode} {ops : Array Oper} {Q : Exit → Act → World → Prop} {S : World → Prop} (i : Nat) {oi : Oper} {fuel : Nat} {listed L : Array Bool} {a a' : Act} {w : World} (hS : S w) (h : wpAnyH P md ops Q S fuel L a' w)
    (hi : ops[i]? = some oi := by simp only [List.getElem?_toArray, List.getElem?_cons_zero, List.getElem?_cons_succ]; rfl)
    (hs : Region.noSelect ops = true := by kernel_rfl) (hf : Region.free md ops listed i = true := by kernel_rfl) (hr : (Region.ready md ops listed).contains i = true := by kernel_rfl)
    (hw : Region.wanted oi (yielded ops a.tmps) = false := by kernel_rfl)
    (hL : listed.setIfInBounds i true = L := by (try simp only [List.setIfInBounds_toArray, List.set_cons_zero, List.set_cons_succ]); with_reducible rfl)
    (ha : a.put oi.dst undef = a' := by (try simp only [Act.put, List.setIfInBounds_toArray, List.set_cons_zero, List.set_cons_succ]); with_reducible rfl)
    (hQ : ∀ c a w, Q (.panic c) (a.put oi.dst undef) w → Q (.panic c) a w := by exact fun _ _ _ h => h) : wpAnyH P md ops Q S (fuel + 1) listed a w := by
  subst hL
  subst ha
  exact wpAnyH_take hi hs hf hr hQ (Or.inr ⟨hw, rfl⟩) hS h
/-- A slot: its size, with a sign or not, its place. -/
def slotV (t : Int × Bool × Int) : List Value := [.int .i64 t.1, .bool t.2.1, .int .i64 t.2.2]
theorem sl_gt (sx sy : Int) (bx by_ : Bool) (nx ny : Int) (w : World) : Calls Tryz.prog 70 #[.agg #[.int .i64 sx, .bool bx, .int .i64 nx], .agg #[.int .i64 sy, .bool by_, .int .i64 ny]] w fun e w' => e = .returned (.bool (decide (sy < sx))) ∧ Below w.heap.size w w' := by
  have e0 := (Blk.new w 162 #[.int .i64 sx, .bool bx, .int .i64 nx]).alloc (.cells #[.int .i64 sy, .bool by_, .int .i64 ny] 162)
  have e1 := Blk.new (w.alloc (.cells #[.int .i64 sx, .bool bx, .int .i64 nx] 162)) 162 #[.int .i64 sy, .bool by_, .int .i64 ny]
  simp only [World.size_alloc] at e1
  have hb := ((Below.refl w.heap.size w).alloc (Nat.le_refl _) (.cells #[.int .i64 sx, .bool bx, .int .i64 nx] 162)).alloc (by simp) (.cells #[.int .i64 sy, .bool by_, .int .i64 ny] 162)
  go_enter Tryz.func70, Tryz.ntmps70
  go_upto_region 1 with fail
  generalize (w.alloc (.cells #[.int .i64 sx, .bool bx, .int .i64 nx] 162)).alloc (.cells #[.int .i64 sy, .bool by_, .int .i64 ny] 162) = W at *
  have x0 : W.cell? ⟨w.heap.size, 0, none⟩ = some (.int .i64 sx) := e0.cell 0
  have y0 : W.cell? ⟨w.heap.size + 1, 0, none⟩ = some (.int .i64 sy) := e1.cell 0
  go_wp2
  go_ret
  exact ⟨rfl, hb⟩
theorem even_sl (l : List (Int × Bool × Int)) : Even 3 (l.map slotV) := by
  intro p hp
  obtain ⟨t, _, rfl⟩ := List.mem_map.1 hp
  refine ⟨rfl, fun u hu => ?_⟩
  simp [slotV] at hu
  rcases hu with rfl | rfl | rfl <;> rfl
theorem cell_of3 {w : World} {g : Nat} {l : List (Int × Bool × Int)} {q : Nat} {t : (Int × Bool × Int)} (hB : Blk w g 162 (l.map slotV).flatten.toArray) (h : l[q]? = some t) (i : Nat) (u : Value) (hu : (slotV t)[i]? = some u) : w.cell? ⟨g, q * 3 + i, none⟩ = some u := by
  rw [hB.cell]
  have := even_at (l.map slotV) (even_sl l) q (slotV t) (by rw [List.getElem?_map, h]; rfl) i u hu
  simpa using this
theorem cells_of3 {w : World} {g K q : Nat} {l : List (Int × Bool × Int)} {sx sy : Int} {bx by_ : Bool} {nx ny : Int} (hB : Blk w g 162 (l.map slotV).flatten.toArray) (hx : l[q]? = some (sx, bx, nx)) (hy : l[K]? = some (sy, by_, ny)) : w.cell? ⟨g, K * 3, none⟩ = some (.int .i64 sy) ∧ w.cell? ⟨g, K * 3 + 1, none⟩ = some (.bool by_) ∧ w.cell? ⟨g, K * 3 + 2, none⟩ = some (.int .i64 ny) ∧ w.cell? ⟨g, q * 3, none⟩ = some (.int .i64 sx) ∧ w.cell? ⟨g, q * 3 + 1, none⟩ = some (.bool bx) ∧ w.cell? ⟨g, q * 3 + 2, none⟩ = some (.int .i64 nx) :=
  ⟨cell_of3 hB hy 0 _ rfl, cell_of3 hB hy 1 _ rfl, cell_of3 hB hy 2 _ rfl, cell_of3 hB hx 0 _ rfl, cell_of3 hB hx 1 _ rfl, cell_of3 hB hx 2 _ rfl⟩
theorem set_el3 (l : List (Int × Bool × Int)) (j : Nat) (t : (Int × Bool × Int)) (hj : j < l.length) (v0 : Value) (v1 : Value) (v2 : Value) (ht : slotV t = [v0, v1, v2]) : ((((l.map slotV).flatten.toArray.setIfInBounds (j * 3) v0).setIfInBounds (j * 3 + 1) v1).setIfInBounds (j * 3 + 2) v2) = ((l.set j t).map slotV).flatten.toArray := by
  rw [List.map_set, ht, ← flat_set3 (l.map slotV) (even_sl l) j v0 v1 v2 (by simpa using hj)]
  simp
theorem sl_info : (Tryz.prog.info? 162).map (fun i => (i.zero, i.size, i.bytes)) = some (some (.agg #[.int .i64 0, .bool false, .int .i64 0]), 3, 24) := by kernel_rfl
set_option maxRecDepth 20000 in
set_option maxHeartbeats 16000000 in
theorem sl_stable (ad : Addr) (cap : Nat) (ss : List (Int × Bool × Int)) (w : World) (h : Tab 3 w w.heap.size (some ad) ss.length (ss.map slotV)) (hn : ss.length ≤ 1000) :
    Calls Tryz.prog 69 #[.slice (some ad) ss.length cap, .func (.func 70) #[] #[]] w fun e w' => ∃ g, e = .returned (.slice (some ⟨g, 0, none⟩) ss.length ss.length) ∧ OTab 3 w' w.heap.size 162 (some ⟨g, 0, none⟩) ss.length ss.length ((stab (fun t => t.1) ss ss.length).map slotV) ∧ Below w.heap.size w w' := by
  obtain ⟨i0, hi, hz, hz1, hz2⟩ := info_parts3 sl_info
  have hsz : (Tryz.prog.info? 162).map (·.size) = some 3 := by rw [hi]; simp [hz1]
  obtain ⟨n, hnn⟩ : ∃ n, ss.length = n := ⟨_, rfl⟩
  have HL := hid hnn
  have HO : Hid (∀ g w', Blk w' g 162 ((stab (fun t => t.1) ss n).map slotV).flatten.toArray → w.heap.size ≤ g → OTab 3 w' w.heap.size 162 (some ⟨g, 0, none⟩) n n ((stab (fun t => t.1) ss n).map slotV)) := hid fun g w' h1 h2 => OTab.blk h1 (even_sl _) (by rw [List.length_map, stab_len, hnn]) h2 (by unfold maxLen; omega)
  rw [hnn] at h hn ⊢
  clear hnn
  go_enter Tryz.func69, Tryz.ntmps69
  go_wp2_with (first
    | (at_make; refine wpList_makeW rfl (.tmp 9) (.tmp 9) _ rfl 162 i0 _ 3 24 Tryz.underlying156 hi hz hz1 hz2 n _ rfl rfl rfl (by omega) (by omega) ?_; intro w1 cur hb1 hc1 hg1 hs1; have be1 := (Below.refl w.heap.size w).grown hg1 (Nat.le_refl _) (fun k hk => by cases hk))
    | (refine wpList_copyW rfl (.tmp 11) (.tmp 12) _ _ rfl 162 Tryz.underlying156 3 hsz w.heap.size n cap ad rfl rfl cur _ hb1 hc1 w.heap.size _ (h.below be1) (by omega) ?_; intro w2 hB hg2; have hb := be1.grown hg2 be1.size (fun k hk => by cases hk; exact Nat.le_refl _)))
  clear h be1 hb1 hc1
  go_loopw [16] (fun i wr => ∃ m : Nat, m ≤ n ∧ i = .int .i64 m ∧ Blk wr w.heap.size 162 ((stab (fun t => t.1) ss m).map slotV).flatten.toArray ∧ Below w.heap.size w wr) (fun i _ => n - (intOf i).toNat)
  case atStart => exact ⟨0, Nat.zero_le _, rfl, hB, hb⟩
  case round =>
    clear hB hb
    obtain ⟨m, hm, rfl, hB, hb⟩ := hrel
    by_cases hlt : m < n
    · have HSM : Hid (sink (fun t => t.1) m (stab (fun t => t.1) ss m) = stab (fun t => t.1) ss (m + 1)) := rfl
      have HLM : Hid ((stab (fun t => t.1) ss m).length = n) := hid (by rw [stab_len, HL.out])
      have m1 : n - (m + 1) < n - m := by omega
      have mlt : (m : Int) < (n : Int) := by omega
      generalize stab (fun t => t.1) ss m = l0 at *
      obtain ⟨lF, hF⟩ : ∃ lF, stab (fun t => t.1) ss (m + 1) = lF := ⟨_, rfl⟩
      have HF := hid hF
      rw [hF] at HSM
      clear hF
      go_wp2_with fail
      go_loopw [7] (fun k wr => ∃ (q : Nat) (l : List (Int × Bool × Int)), q ≤ m ∧ k = .int .i64 q ∧ sink (fun t => t.1) q l = lF ∧ l.length = n ∧ Blk wr w.heap.size 162 (l.map slotV).flatten.toArray ∧ Below w.heap.size w wr) (fun k _ => (intOf k).toNat)
      case atStart => exact ⟨m, l0, Nat.le_refl _, rfl, HSM.out, HLM.out, hB, hb⟩
      case round =>
        clear hB hb HSM HLM
        obtain ⟨q, l, hqm, rfl, hsk, hll, hB, hb⟩ := hrel
        have HSK := hid hsk
        have HLL := hid hll
        clear hsk
        cases q with
        | zero =>
          have HEQ : Hid (l = lF) := hid HSK.out
          clear hll
          go_upto_region 7 with fail
          refine wp_region_noPanic ?_
          refine wp_region_held_drew (S := (fun w' : World => True)) (by kernel_rfl) trivial (fun hHeld => ?_)
          refine (show wpAnyH _ _ _ _ _ 15 _ _ _ from ?_)
          try (simp only [Act.put, List.setIfInBounds_toArray, List.set_cons_zero, List.set_cons_succ])
          replace hB := hB.drew
          replace hb := hb.drew
          generalize wr.drew = V0 at *
          refine tk 0 hHeld ?_
          refine tk 1 hHeld ?_
          refine tk 2 hHeld ?_
          refine tkn 3 hHeld ?_
          refine tkn 4 hHeld ?_
          refine tkn 5 hHeld ?_
          refine tkn 6 hHeld ?_
          refine tkn 7 hHeld ?_
          refine tkn 8 hHeld ?_
          refine tkn 9 hHeld ?_
          refine tkn 10 hHeld ?_
          refine tkn 11 hHeld ?_
          refine tkn 12 hHeld ?_
          refine tkn 13 hHeld ?_
          refine tk 14 hHeld ?_
          refine wpAnyH_done (by kernel_rfl) ?_ _
          refine NoPanic.normal ?_
          clear hHeld
          go_wp2_with fail
          go_roundw
          case rel => exact ⟨m + 1, by omega, by go_num, by rw [HF.out, ← HEQ.out]; exact hB, hb⟩
          case measure => simpa [intOf] using m1
        | succ q =>
          obtain ⟨⟨sx, bx, nx⟩, hx⟩ : ∃ t, l[q]? = some t := ⟨_, List.getElem?_eq_getElem (by omega)⟩
          obtain ⟨⟨sy, by_, ny⟩, hy⟩ : ∃ t, l[q + 1]? = some t := ⟨_, List.getElem?_eq_getElem (by omega)⟩
          obtain ⟨K, hK⟩ : ∃ K, q + 1 = K := ⟨_, rfl⟩
          have HKq := hid hK
          have HY : Hid (l[K]? = some (sy, by_, ny)) := hid (by rw [← hK]; exact hy)
          have HX := hid hx
          have HG := hid fun w => sl_gt sy sx by_ bx ny nx w
          have k0 : decide ((0 : Int) < (K : Int)) = true := decide_eq_true (by omega)
          have k1 : (0 : Int) < (K : Int) := by omega
          have k9 : decide (0 < K) = true := decide_eq_true (by omega)
          have k10 : 0 < K := by omega
          have k2 : (0 : Int) ≤ (K : Int) := by omega
          have k3 : (K : Int) < (n : Int) := by omega
          have k4 : (0 : Int) ≤ (q : Int) := by omega
          have k5 : (q : Int) < (n : Int) := by omega
          have k6 : IntKind.i64.wrap ((K : Int) - 1) = (q : Int) := (IntWalk.i64_in _ (by omega)).trans (by omega)
          have k7 : wrap64 ((K : Int) - 1) = (q : Int) := (IntWalk.wrap64_in _ (by omega)).trans (by omega)
          have hKn : K < n := by omega
          have mq : q < K := by omega
          have hqm2 : q ≤ m := by omega
          have k8 : K * 3 + 0 = K * 3 := rfl
          rw [hK]
          clear hx hy hK hll hqm
          by_cases hgt : sx < sy
          · have HS1 : Hid (((((l.map slotV).flatten.toArray.setIfInBounds (K * 3) (.int .i64 sx)).setIfInBounds (K * 3 + 1) (.bool bx)).setIfInBounds (K * 3 + 2) (.int .i64 nx)) = ((l.set K (sx, bx, nx)).map slotV).flatten.toArray) := hid (set_el3 l K (sx, bx, nx) (by rw [HLL.out]; exact hKn) (.int .i64 sx) (.bool bx) (.int .i64 nx) rfl)
            have HX2 : Hid ((l.set K (sx, bx, nx))[q]? = some (sx, bx, nx)) := hid (by rw [List.getElem?_set_ne (by omega)]; exact HX.out)
            have HS2 : Hid ((((((l.set K (sx, bx, nx)).map slotV).flatten.toArray.setIfInBounds (q * 3) (.int .i64 sy)).setIfInBounds (q * 3 + 1) (.bool by_)).setIfInBounds (q * 3 + 2) (.int .i64 ny)) = (((l.set K (sx, bx, nx)).set q (sy, by_, ny)).map slotV).flatten.toArray) := hid (set_el3 (l.set K (sx, bx, nx)) q (sy, by_, ny) (by rw [List.length_set, HLL.out]; omega) (.int .i64 sy) (.bool by_) (.int .i64 ny) rfl)
            have HL2 : Hid (((l.set K (sx, bx, nx)).set q (sy, by_, ny)).length = n) := hid (by rw [List.length_set, List.length_set, HLL.out])
            have HSK2 : Hid (sink (fun t => t.1) q ((l.set K (sx, bx, nx)).set q (sy, by_, ny)) = lF) := hid (by
              have h1 := sink_yes (fun t : (Int × Bool × Int) => t.1) q l (sx, bx, nx) (sy, by_, ny) HX.out (by rw [HKq.out]; exact HY.out) hgt
              rw [HKq.out] at h1
              rw [← h1, ← HKq.out]
              exact HSK.out)
            have dg : decide (sx < sy) = true := decide_eq_true hgt
            clear HSK HLL
            go_upto_region 7 with fail
            refine wp_region_noPanic ?_
            refine wp_region_held_drew (S := (fun w' : World => w'.cell? ⟨w.heap.size, K * 3, none⟩ = some (.int .i64 sy) ∧ w'.cell? ⟨w.heap.size, K * 3 + 1, none⟩ = some (.bool by_) ∧ w'.cell? ⟨w.heap.size, K * 3 + 2, none⟩ = some (.int .i64 ny) ∧ w'.cell? ⟨w.heap.size, q * 3, none⟩ = some (.int .i64 sx) ∧ w'.cell? ⟨w.heap.size, q * 3 + 1, none⟩ = some (.bool bx) ∧ w'.cell? ⟨w.heap.size, q * 3 + 2, none⟩ = some (.int .i64 nx))) (by kernel_rfl) (cells_of3 hB HX.out HY.out) (fun hHeld => ?_)
            refine (show wpAnyH _ _ _ _ _ 15 _ _ _ from ?_)
            try (simp only [Act.put, List.setIfInBounds_toArray, List.set_cons_zero, List.set_cons_succ])
            replace hB := hB.drew
            replace hb := hb.drew
            generalize wr.drew = V0 at *
            refine tk 0 hHeld ?_
            refine tk 1 hHeld ?_
            refine tk 2 hHeld ?_
            refine tk 3 hHeld ?_
            refine tk 4 hHeld ?_
            refine tk 5 hHeld ?_
            refine tk 6 hHeld ?_
            refine tk 7 hHeld ?_
            refine tk 8 hHeld ?_
            refine tk 9 hHeld ?_
            refine tk 10 hHeld ?_
            refine tk 11 hHeld ?_
            refine tk 12 hHeld ?_
            refine rd1 13 (fun KK hKK => ?_)
            go_simp
            refine (HG.out _).mono ?_
            rintro e V1 ⟨rfl, b1⟩
            go_wp2_with fail
            replace hB := hB.below b1 hB.lt
            replace hb := hb.trans (b1.mono hb.size)
            clear b1
            refine hKK.out _ _ (cells_of3 hB HX.out HY.out) (fun hHeld => ?_)
            clear hKK KK
            try (simp only [Act.put, List.setIfInBounds_toArray, List.set_cons_zero, List.set_cons_succ])
            refine tk 14 hHeld ?_
            refine wpAnyH_done (by kernel_rfl) ?_ _
            refine NoPanic.normal ?_
            clear hHeld
            go_wp2_with fail
            go_upto_region 9 with fail
            refine wp_region_noPanic ?_
            refine wp_region_held_drew (S := (fun w' : World => True)) (by kernel_rfl) trivial (fun hHeld => ?_)
            refine (show wpAnyH _ _ _ _ _ 18 _ _ _ from ?_)
            try (simp only [Act.put, List.setIfInBounds_toArray, List.set_cons_zero, List.set_cons_succ])
            replace hB := hB.drew
            replace hb := hb.drew
            generalize V1.drew = V2 at *
            refine tk 0 hHeld ?_
            refine tk 1 hHeld ?_
            refine tk 2 hHeld ?_
            refine tk 3 hHeld ?_
            refine tk 4 hHeld ?_
            refine tk 5 hHeld ?_
            refine tk 6 hHeld ?_
            refine tk 7 hHeld ?_
            refine tk 8 hHeld ?_
            refine tk 10 hHeld ?_
            refine tk 11 hHeld ?_
            refine tk 12 hHeld ?_
            refine rd2 9 13 (fun K9 hK9 => ?ca) (fun K13 hK13 => ?cb)
            case ca =>
              have cc0 : V2.cell? ⟨w.heap.size, q * 3, none⟩ = some (.int .i64 sx) := cell_of3 hB HX.out 0 _ rfl
              have cc1 : V2.cell? ⟨w.heap.size, q * 3 + 1, none⟩ = some (.bool bx) := cell_of3 hB HX.out 1 _ rfl
              have cc2 : V2.cell? ⟨w.heap.size, q * 3 + 2, none⟩ = some (.int .i64 nx) := cell_of3 hB HX.out 2 _ rfl
              go_simp
              try go_wp2_with fail
              clear cc0 cc1 cc2
              refine hK9.out _ _ trivial (fun hHeld => ?_)
              clear hK9 K9
              try (simp only [Act.put, List.setIfInBounds_toArray, List.set_cons_zero, List.set_cons_succ])
              refine rd1 13 (fun K13 hK13 => ?_)
              have cc0 : V2.cell? ⟨w.heap.size, K * 3, none⟩ = some (.int .i64 sy) := cell_of3 hB HY.out 0 _ rfl
              have cc1 : V2.cell? ⟨w.heap.size, K * 3 + 1, none⟩ = some (.bool by_) := cell_of3 hB HY.out 1 _ rfl
              have cc2 : V2.cell? ⟨w.heap.size, K * 3 + 2, none⟩ = some (.int .i64 ny) := cell_of3 hB HY.out 2 _ rfl
              go_simp
              try go_wp2_with fail
              clear cc0 cc1 cc2
              refine hK13.out _ _ trivial (fun hHeld => ?_)
              clear hK13 K13
              try (simp only [Act.put, List.setIfInBounds_toArray, List.set_cons_zero, List.set_cons_succ])
              refine tk 14 hHeld ?_
              refine rd1 15 (fun KK hKK => ?_)
              have cc0 : V2.cell? ⟨w.heap.size, K * 3, none⟩ = some (.int .i64 sy) := cell_of3 hB HY.out 0 _ rfl
              have zz0 := hB.frozen (K * 3)
              have cc1 : V2.cell? ⟨w.heap.size, K * 3 + 1, none⟩ = some (.bool by_) := cell_of3 hB HY.out 1 _ rfl
              have zz1 := hB.frozen (K * 3 + 1)
              have cc2 : V2.cell? ⟨w.heap.size, K * 3 + 2, none⟩ = some (.int .i64 ny) := cell_of3 hB HY.out 2 _ rfl
              have zz2 := hB.frozen (K * 3 + 2)
              go_simp
              try go_wp2_with fail
              clear cc0 zz0 cc1 zz1 cc2 zz2
              have hB2 := (((hB.set_ (K * 3) (.int .i64 sx)).set_ (K * 3 + 1) (.bool bx)).set_ (K * 3 + 2) (.int .i64 nx))
              rw [HS1.out] at hB2
              replace hb := (((hb.setCell (p := ⟨w.heap.size, K * 3, none⟩) (by dsimp only; omega) (.int .i64 sx)).setCell (p := ⟨w.heap.size, K * 3 + 1, none⟩) (by dsimp only; omega) (.bool bx)).setCell (p := ⟨w.heap.size, K * 3 + 2, none⟩) (by dsimp only; omega) (.int .i64 nx))
              clear hB
              generalize (((V2.setCell ⟨w.heap.size, K * 3, none⟩ (.int .i64 sx)).setCell ⟨w.heap.size, K * 3 + 1, none⟩ (.bool bx)).setCell ⟨w.heap.size, K * 3 + 2, none⟩ (.int .i64 nx)) = V3 at *
              refine hKK.out _ _ trivial (fun hHeld => ?_)
              clear hKK KK
              try (simp only [Act.put, List.setIfInBounds_toArray, List.set_cons_zero, List.set_cons_succ])
              refine tk 16 hHeld ?_
              refine rd1 17 (fun KK hKK => ?_)
              have cc0 : V3.cell? ⟨w.heap.size, q * 3, none⟩ = some (.int .i64 sx) := cell_of3 hB2 HX2.out 0 _ rfl
              have zz0 := hB2.frozen (q * 3)
              have cc1 : V3.cell? ⟨w.heap.size, q * 3 + 1, none⟩ = some (.bool bx) := cell_of3 hB2 HX2.out 1 _ rfl
              have zz1 := hB2.frozen (q * 3 + 1)
              have cc2 : V3.cell? ⟨w.heap.size, q * 3 + 2, none⟩ = some (.int .i64 nx) := cell_of3 hB2 HX2.out 2 _ rfl
              have zz2 := hB2.frozen (q * 3 + 2)
              go_simp
              try go_wp2_with fail
              clear cc0 zz0 cc1 zz1 cc2 zz2
              have hB3 := (((hB2.set_ (q * 3) (.int .i64 sy)).set_ (q * 3 + 1) (.bool by_)).set_ (q * 3 + 2) (.int .i64 ny))
              rw [HS2.out] at hB3
              replace hb := (((hb.setCell (p := ⟨w.heap.size, q * 3, none⟩) (by dsimp only; omega) (.int .i64 sy)).setCell (p := ⟨w.heap.size, q * 3 + 1, none⟩) (by dsimp only; omega) (.bool by_)).setCell (p := ⟨w.heap.size, q * 3 + 2, none⟩) (by dsimp only; omega) (.int .i64 ny))
              clear hB2
              generalize (((V3.setCell ⟨w.heap.size, q * 3, none⟩ (.int .i64 sy)).setCell ⟨w.heap.size, q * 3 + 1, none⟩ (.bool by_)).setCell ⟨w.heap.size, q * 3 + 2, none⟩ (.int .i64 ny)) = V4 at *
              refine hKK.out _ _ trivial (fun hHeld => ?_)
              clear hKK KK
              try (simp only [Act.put, List.setIfInBounds_toArray, List.set_cons_zero, List.set_cons_succ])
              refine wpAnyH_done (by kernel_rfl) ?_ _
              refine NoPanic.normal ?_
              clear hHeld
              go_wp2_with fail
              go_roundw
              case rel => exact ⟨q, _, by omega, by go_num, HSK2.out, HL2.out, hB3, hb⟩
              case measure => simpa [intOf] using mq
            case cb =>
              have cc0 : V2.cell? ⟨w.heap.size, K * 3, none⟩ = some (.int .i64 sy) := cell_of3 hB HY.out 0 _ rfl
              have cc1 : V2.cell? ⟨w.heap.size, K * 3 + 1, none⟩ = some (.bool by_) := cell_of3 hB HY.out 1 _ rfl
              have cc2 : V2.cell? ⟨w.heap.size, K * 3 + 2, none⟩ = some (.int .i64 ny) := cell_of3 hB HY.out 2 _ rfl
              go_simp
              try go_wp2_with fail
              clear cc0 cc1 cc2
              refine hK13.out _ _ trivial (fun hHeld => ?_)
              clear hK13 K13
              try (simp only [Act.put, List.setIfInBounds_toArray, List.set_cons_zero, List.set_cons_succ])
              refine rd1 9 (fun K9 hK9 => ?_)
              have cc0 : V2.cell? ⟨w.heap.size, q * 3, none⟩ = some (.int .i64 sx) := cell_of3 hB HX.out 0 _ rfl
              have cc1 : V2.cell? ⟨w.heap.size, q * 3 + 1, none⟩ = some (.bool bx) := cell_of3 hB HX.out 1 _ rfl
              have cc2 : V2.cell? ⟨w.heap.size, q * 3 + 2, none⟩ = some (.int .i64 nx) := cell_of3 hB HX.out 2 _ rfl
              go_simp
              try go_wp2_with fail
              clear cc0 cc1 cc2
              refine hK9.out _ _ trivial (fun hHeld => ?_)
              clear hK9 K9
              try (simp only [Act.put, List.setIfInBounds_toArray, List.set_cons_zero, List.set_cons_succ])
              refine tk 14 hHeld ?_
              refine rd1 15 (fun KK hKK => ?_)
              have cc0 : V2.cell? ⟨w.heap.size, K * 3, none⟩ = some (.int .i64 sy) := cell_of3 hB HY.out 0 _ rfl
              have zz0 := hB.frozen (K * 3)
              have cc1 : V2.cell? ⟨w.heap.size, K * 3 + 1, none⟩ = some (.bool by_) := cell_of3 hB HY.out 1 _ rfl
              have zz1 := hB.frozen (K * 3 + 1)
              have cc2 : V2.cell? ⟨w.heap.size, K * 3 + 2, none⟩ = some (.int .i64 ny) := cell_of3 hB HY.out 2 _ rfl
              have zz2 := hB.frozen (K * 3 + 2)
              go_simp
              try go_wp2_with fail
              clear cc0 zz0 cc1 zz1 cc2 zz2
              have hB2 := (((hB.set_ (K * 3) (.int .i64 sx)).set_ (K * 3 + 1) (.bool bx)).set_ (K * 3 + 2) (.int .i64 nx))
              rw [HS1.out] at hB2
              replace hb := (((hb.setCell (p := ⟨w.heap.size, K * 3, none⟩) (by dsimp only; omega) (.int .i64 sx)).setCell (p := ⟨w.heap.size, K * 3 + 1, none⟩) (by dsimp only; omega) (.bool bx)).setCell (p := ⟨w.heap.size, K * 3 + 2, none⟩) (by dsimp only; omega) (.int .i64 nx))
              clear hB
              generalize (((V2.setCell ⟨w.heap.size, K * 3, none⟩ (.int .i64 sx)).setCell ⟨w.heap.size, K * 3 + 1, none⟩ (.bool bx)).setCell ⟨w.heap.size, K * 3 + 2, none⟩ (.int .i64 nx)) = V3 at *
              refine hKK.out _ _ trivial (fun hHeld => ?_)
              clear hKK KK
              try (simp only [Act.put, List.setIfInBounds_toArray, List.set_cons_zero, List.set_cons_succ])
              refine tk 16 hHeld ?_
              refine rd1 17 (fun KK hKK => ?_)
              have cc0 : V3.cell? ⟨w.heap.size, q * 3, none⟩ = some (.int .i64 sx) := cell_of3 hB2 HX2.out 0 _ rfl
              have zz0 := hB2.frozen (q * 3)
              have cc1 : V3.cell? ⟨w.heap.size, q * 3 + 1, none⟩ = some (.bool bx) := cell_of3 hB2 HX2.out 1 _ rfl
              have zz1 := hB2.frozen (q * 3 + 1)
              have cc2 : V3.cell? ⟨w.heap.size, q * 3 + 2, none⟩ = some (.int .i64 nx) := cell_of3 hB2 HX2.out 2 _ rfl
              have zz2 := hB2.frozen (q * 3 + 2)
              go_simp
              try go_wp2_with fail
              clear cc0 zz0 cc1 zz1 cc2 zz2
              have hB3 := (((hB2.set_ (q * 3) (.int .i64 sy)).set_ (q * 3 + 1) (.bool by_)).set_ (q * 3 + 2) (.int .i64 ny))
              rw [HS2.out] at hB3
              replace hb := (((hb.setCell (p := ⟨w.heap.size, q * 3, none⟩) (by dsimp only; omega) (.int .i64 sy)).setCell (p := ⟨w.heap.size, q * 3 + 1, none⟩) (by dsimp only; omega) (.bool by_)).setCell (p := ⟨w.heap.size, q * 3 + 2, none⟩) (by dsimp only; omega) (.int .i64 ny))
              clear hB2
              generalize (((V3.setCell ⟨w.heap.size, q * 3, none⟩ (.int .i64 sy)).setCell ⟨w.heap.size, q * 3 + 1, none⟩ (.bool by_)).setCell ⟨w.heap.size, q * 3 + 2, none⟩ (.int .i64 ny)) = V4 at *
              refine hKK.out _ _ trivial (fun hHeld => ?_)
              clear hKK KK
              try (simp only [Act.put, List.setIfInBounds_toArray, List.set_cons_zero, List.set_cons_succ])
              refine wpAnyH_done (by kernel_rfl) ?_ _
              refine NoPanic.normal ?_
              clear hHeld
              go_wp2_with fail
              go_roundw
              case rel => exact ⟨q, _, by omega, by go_num, HSK2.out, HL2.out, hB3, hb⟩
              case measure => simpa [intOf] using mq
          · have HEQ : Hid (l = lF) := hid (by
              have h1 := sink_no (fun t : (Int × Bool × Int) => t.1) q l (sx, bx, nx) (sy, by_, ny) HX.out (by rw [HKq.out]; exact HY.out) hgt
              rw [← h1]
              exact HSK.out)
            have dg : decide (sx < sy) = false := decide_eq_false hgt
            go_upto_region 7 with fail
            refine wp_region_noPanic ?_
            refine wp_region_held_drew (S := (fun w' : World => w'.cell? ⟨w.heap.size, K * 3, none⟩ = some (.int .i64 sy) ∧ w'.cell? ⟨w.heap.size, K * 3 + 1, none⟩ = some (.bool by_) ∧ w'.cell? ⟨w.heap.size, K * 3 + 2, none⟩ = some (.int .i64 ny) ∧ w'.cell? ⟨w.heap.size, q * 3, none⟩ = some (.int .i64 sx) ∧ w'.cell? ⟨w.heap.size, q * 3 + 1, none⟩ = some (.bool bx) ∧ w'.cell? ⟨w.heap.size, q * 3 + 2, none⟩ = some (.int .i64 nx))) (by kernel_rfl) (cells_of3 hB HX.out HY.out) (fun hHeld => ?_)
            refine (show wpAnyH _ _ _ _ _ 15 _ _ _ from ?_)
            try (simp only [Act.put, List.setIfInBounds_toArray, List.set_cons_zero, List.set_cons_succ])
            replace hB := hB.drew
            replace hb := hb.drew
            generalize wr.drew = V0 at *
            refine tk 0 hHeld ?_
            refine tk 1 hHeld ?_
            refine tk 2 hHeld ?_
            refine tk 3 hHeld ?_
            refine tk 4 hHeld ?_
            refine tk 5 hHeld ?_
            refine tk 6 hHeld ?_
            refine tk 7 hHeld ?_
            refine tk 8 hHeld ?_
            refine tk 9 hHeld ?_
            refine tk 10 hHeld ?_
            refine tk 11 hHeld ?_
            refine tk 12 hHeld ?_
            refine rd1 13 (fun KK hKK => ?_)
            go_simp
            refine (HG.out _).mono ?_
            rintro e V1 ⟨rfl, b1⟩
            go_wp2_with fail
            replace hB := hB.below b1 hB.lt
            replace hb := hb.trans (b1.mono hb.size)
            clear b1
            refine hKK.out _ _ (cells_of3 hB HX.out HY.out) (fun hHeld => ?_)
            clear hKK KK
            try (simp only [Act.put, List.setIfInBounds_toArray, List.set_cons_zero, List.set_cons_succ])
            refine tk 14 hHeld ?_
            refine wpAnyH_done (by kernel_rfl) ?_ _
            refine NoPanic.normal ?_
            clear hHeld
            go_wp2_with fail
            go_roundw
            case rel => exact ⟨m + 1, by omega, by go_num, by rw [HF.out, ← HEQ.out]; exact hB, hb⟩
            case measure => simpa [intOf] using m1
    · obtain rfl : m = n := by omega
      go_wp2
      go_ret
      exact ⟨w.heap.size, rfl, HO.out _ _ hB (Nat.le_refl _), hb⟩
end Go.Proofs.YtldoocndhfgjhaaGreat
