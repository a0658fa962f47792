/- Chapter 14: numbers taken by a shape. -/
import Derived.Test.YtldoocndhfgjhaaGreatShpD
import Derived.Test.YtldoocndhfgjhaaGreatHeld
namespace Go.Proofs.YtldoocndhfgjhaaGreat
open Go.RowKit
set_option linter.unusedVariables false
set_option linter.unusedSimpArgs false

theorem le1 (x : Int) (h : 0 ≤ x ∧ x < 256) : leP 1 x = [x] := by
  simp [leP, List.range_succ]; omega
theorem le4 (x : Int) : leP 4 x = [x % 256, x / 256 % 256, x / 65536 % 256, x / 16777216 % 256] := by
  simp [leP, List.range_succ]
theorem le2z : leP 2 0 = [0, 0] := by decide
theorem sh_rF (sz x : Int) (g m c : Nat) (xs : List Int) (A : Option Addr) (w : World) (hk : VK sz false x) (h : Rd w g (.slice A m c)) (hr : Row .u8 w g A m (leP sz.toNat x ++ xs)) (hc : m ≤ c) (hm : m ≤ 100000) :
    Calls Tryz.prog 150 #[.pointer (some ⟨g, 0, none⟩), .int .i64 sz] w fun e w' => e = .returned (.int .i64 x) ∧ w' = w.setCell ⟨g, 0, none⟩ (.slice (cutA A c sz.toNat) (m - sz.toNat) (c - sz.toNat)) := by
  rcases hk with ⟨rfl, _, hx⟩ | ⟨rfl, _, hx⟩ | ⟨_, hx, _⟩
  · have e : leP (Int.toNat 1) x = [x] := le1 x hx
    rw [e] at hr
    exact sh_r1 g m c x xs A w h hr hc hm (by unfold U8; omega)
  · have e : leP (Int.toNat 4) x = [x % 256, x / 256 % 256, x / 65536 % 256, x / 16777216 % 256] := le4 x
    rw [e] at hr
    have := sh_r4 g m c _ _ _ _ xs A w h hr hc hm ⟨by unfold U8; omega, by unfold U8; omega, by unfold U8; omega, by unfold U8; omega⟩
    rw [show x % 256 + 256 * (x / 256 % 256) + 65536 * (x / 65536 % 256) + 16777216 * (x / 16777216 % 256) = x by omega] at this
    exact this
  · cases hx
theorem put_size (fs : List (Int × Bool)) (xs : List Int) (hk : ∀ t ∈ fs, FK t.1 t.2) : ∀ j, j ≤ fs.length → ((putB fs xs j).length : Int) = sizeP (fs.take j) := by
  intro j
  induction j with
  | zero => intro _; rfl
  | succ j ih =>
    intro hj
    obtain ⟨t, ht⟩ : ∃ t, fs[j]? = some t := ⟨_, List.getElem?_eq_getElem (by omega)⟩
    have h2 := fk_bd _ _ (hk t (List.mem_of_getElem? ht))
    rw [size_snoc fs j t ht, ← ih (by omega)]
    show ((putB fs xs j ++ leP _ _).length : Int) = _
    rw [List.length_append, leP_len, ht]
    simp only [Option.getD_some]
    omega
theorem put_more (fs : List (Int × Bool)) (xs : List Int) (j : Nat) : ∀ n, j ≤ n → ∃ r, putB fs xs n = putB fs xs j ++ r := by
  intro n
  induction n with
  | zero =>
    intro h
    obtain rfl : j = 0 := by omega
    exact ⟨[], rfl⟩
  | succ n ih =>
    intro h
    by_cases e : j = n + 1
    · subst e; exact ⟨[], by simp⟩
    · obtain ⟨r, hr⟩ := ih (by omega)
      refine ⟨r ++ leP (fs[n]?.getD (0, false)).1.toNat (xs[n]?.getD 0), ?_⟩
      show putB fs xs n ++ leP (fs[n]?.getD (0, false)).1.toNat (xs[n]?.getD 0) = _
      rw [hr, List.append_assoc]
theorem out_set (xs : List Int) (n j : Nat) (hl : xs.length = n) (hj : j < n) : ((xs.take j ++ List.replicate (n - j) 0).map (Value.int .i64)).toArray.setIfInBounds j (.int .i64 (xs[j]?.getD 0)) = ((xs.take (j + 1) ++ List.replicate (n - (j + 1)) 0).map (Value.int .i64)).toArray := by
  have e1 : n - j = (n - (j + 1)) + 1 := by omega
  have hj2 : j < xs.length := by omega
  have hl2 : (xs.take j).length = j := by rw [List.length_take]; omega
  rw [List.setIfInBounds_toArray, ← List.map_set, e1, List.replicate_succ, List.set_append_right _ _ (by omega), hl2, Nat.sub_self, List.set_cons_zero, List.take_succ_eq_append_getElem hj2, List.getElem?_eq_getElem hj2, List.append_assoc]
  rfl
theorem out_at (xs : List Int) (n j : Nat) (hl : xs.length = n) (hj : j < n) : ((xs.take (j + 1) ++ List.replicate (n - (j + 1)) 0).map (Value.int .i64)).toArray[j]? = some (.int .i64 (xs[j]?.getD 0)) := by
  have hj2 : j < xs.length := by omega
  rw [List.getElem?_toArray, List.getElem?_map, List.getElem?_append_left (by rw [List.length_take]; omega), List.getElem?_take_of_lt (by omega), List.getElem?_eq_getElem hj2]
  rfl
theorem out_old (xs : List Int) (n j : Nat) (hl : xs.length = n) (hj : j < n) : ((xs.take j ++ List.replicate (n - j) 0).map (Value.int .i64)).toArray[j]? = some (.int .i64 0) := by
  have e1 : n - j = (n - (j + 1)) + 1 := by omega
  have hl2 : (xs.take j).length = j := by rw [List.length_take]; omega
  rw [List.getElem?_toArray, List.getElem?_map, List.getElem?_append_right (by omega), hl2, Nat.sub_self, e1, List.replicate_succ]
  rfl
theorem own_blk {k : IntKind} {w : World} {base g n : Nat} {e : TypeId} {xs : List Int} (h : Blk w g e (xs.map (Value.int k)).toArray) (hn : xs.length = n) (hb : base ≤ g) (hm : n ≤ maxLen) : Own k w base e (some ⟨g, 0, none⟩) n n xs := by
  refine ⟨by simp [hn], .inr ⟨g, n, (xs.map (Value.int k)).toArray, rfl, hb, h, Nat.le_refl _, hm, by simp [hn], ?_⟩⟩
  rw [List.take_of_length_le]
  simp [hn]
theorem field_way1 (a b : Nat) (w : World) : (Instr.field 209 (.agg #[.func (.func a) #[] #[], .func (.func b) #[] #[]]) 1).run Tryz.prog w = .ok (.func (.func b) #[] #[]) w := by
  have hu := Tryz.underlying209
  have ha := Tryz.underlying207
  simp [Instr.field, asAgg, run_underlying hu, run_underlying ha, part, isAgg]
theorem info64 : (Tryz.prog.info? 2).map (fun i => (i.zero, i.size, i.bytes)) = some (some (.int .i64 0), 1, 8) := by kernel_rfl
/-- Numbers, and no error. -/
def TakeOut (xs : List Int) (n : Nat) (w : World) (e : Ending) (w' : World) : Prop := ∃ g, e = .returned (.tuple #[.slice (some ⟨g, 0, none⟩) n n, .int .i64 0]) ∧ Own .i64 w' w.heap.size 2 (some ⟨g, 0, none⟩) n n xs ∧ Below w.heap.size w w'
set_option maxRecDepth 20000 in
set_option maxHeartbeats 16000000 in
theorem sh_Take (A : Option Addr) (bd : Addr) (n cap cap2 L : Nat) (fs : List (Int × Bool)) (xs : List Int) (w : World) (hnn : fs.length = n) (hxx : xs.length = n) (hLL : (putB fs xs n).length = L) (h : Tab 4 w w.heap.size A n (fs.map fieldV)) (hv : Row .u8 w w.heap.size (some bd) L (putB fs xs n)) (hn : n ≤ 100) (hn0 : 0 < n)
    (hk : ∀ j, j < n → VK (fs[j]?.getD (0, false)).1 (fs[j]?.getD (0, false)).2 (xs[j]?.getD 0)) :
    Calls Tryz.prog 43 #[.slice A n cap, .slice (some bd) L cap2] w (TakeOut xs n w) := by
  have hkf : ∀ t ∈ fs, FK t.1 t.2 := by
    intro t ht
    obtain ⟨j, hj, e⟩ := List.getElem_of_mem ht
    have := hk j (by omega)
    rw [List.getElem?_eq_getElem hj, e] at this
    exact vk_fk this
  obtain ⟨i0, hi, hz, hz1, hz2⟩ := info_parts3 info64
  have hsz := put_size fs xs hkf n (by omega)
  rw [List.take_of_length_le (by omega), hLL] at hsz
  have hbd := size_bd fs hkf n (by omega)
  rw [List.take_of_length_le (by omega), ← hsz] at hbd
  have HO : Hid (∀ g w', Own .i64 w' w.heap.size 2 (some ⟨g, 0, none⟩) n n xs → Below w.heap.size w w' → TakeOut xs n w (.returned (.tuple #[.slice (some ⟨g, 0, none⟩) n n, .int .i64 0])) w') := hid fun g w' h1 h2 => ⟨g, rfl, h1, h2⟩
  have HW := hid (sh_Width A n cap fs w hnn h (by omega) hkf)
  have HR := hid fun w (h : Tab 4 w w.heap.size A n (fs.map fieldV)) => sh_Right A n cap fs w hnn h (by omega) hkf
  rw [← hsz] at HW
  have HL := hid hnn
  have HX := hid hxx
  have HK := hid hk
  have HB := hid hLL
  have k1 : decide ((L : Int) < (L : Int)) = false := decide_eq_false (by omega)
  have hf0 := field_way1 149 150
  have hf1 := field_way1 112 113
  clear hnn hkf hk hxx hsz hLL
  go_enter Tryz.func43, Tryz.ntmps43
  go_wp2_with fail
  refine HW.out.mono ?_
  rintro e w0 ⟨rfl, hb⟩
  clear HW
  have H2 := hid (HR.out w0 ((h.below hb).more hb.size))
  go_wp2_with fail
  refine H2.out.mono ?_
  rintro e w1 ⟨rfl, b1⟩
  replace hb := hb.trans (b1.mono hb.size)
  clear b1 H2 HR
  have H3 := hid (o_New bd L cap2 (putB fs xs n) w1 ((hv.below hb).more hb.size) (by omega))
  clear hv
  go_wp2_with fail
  refine H3.out.mono ?_
  rintro e w2 ⟨g, X, c, rfl, er, hr, hc, hg, b2⟩
  replace hg := Nat.le_trans hb.size hg
  replace hb := hb.trans (b2.mono hb.size)
  clear b2 H3
  unfold Rd at er
  go_wp2_with (first
    | (at_make; refine wpList_makerow (k := .i64) rfl (.tmp 30) (.tmp 30) _ rfl 2 i0 Tryz.underlying29 hi hz hz1 8 hz2 n _ rfl rfl rfl (by omega) (by omega) ?_; intro w3 eo hg3 hs3; have hb3 := hb.grown hg3 hb.size (fun k hk => by cases hk); have er3 := er.grown hg3 (by simp); have hgl := er.lt; have hr3 := hr.below (show Below g w2 w3 from ⟨hg3.os, hg3.tape, hg3.output, hg3.size, fun i hi => hg3.block i (by omega) (by simp)⟩)))
  clear hb er hr
  generalize w2.heap.size = go at *
  go_loopw [34] (fun i wr => ∃ (j q d : Nat) (Y : Option Addr) (rest : List Int), j ≤ n ∧ i = .int .i64 j ∧ putB fs xs n = putB fs xs j ++ rest ∧ q ≤ d ∧ q ≤ L ∧ Blk wr g 250 #[.slice Y q d, .bool true, .bool false] ∧ Row .u8 wr g Y q rest ∧ Blk wr go 2 ((xs.take j ++ List.replicate (n - j) 0).map (Value.int .i64)).toArray ∧ Below w.heap.size w wr) (fun i _ => n - (intOf i).toNat)
  case atStart => exact ⟨0, L, c, X, _, Nat.zero_le _, rfl, rfl, hc, Nat.le_refl _, er3, hr3, by simpa using eo, hb3⟩
  case round =>
    clear er3 hr3 eo hb3 hg3
    obtain ⟨j, q, d, Y, rest, hj, rfl, hrest, hqd, hqL, er, hr, eo, hb⟩ := hrel
    by_cases hlt : j < n
    · obtain ⟨⟨sz, sg⟩, hs⟩ : ∃ t, fs[j]? = some t := ⟨_, List.getElem?_eq_getElem (by rw [HL.out]; exact hlt)⟩
      obtain ⟨ad, rfl, _, hcell⟩ := (h.below hb).at_ (j := j) (p := fieldV (sz, sg)) (by rw [List.getElem?_map, hs]; rfl)
      have c0 := hcell 0 (.int .i64 sz) rfl
      have c1 := hcell 1 (.bool sg) rfl
      have c2 := hcell 2 (.int .i64 (loP sg)) rfl
      have c3 := hcell 3 (.int .i64 (hiP sz)) rfl
      rw [Nat.add_zero] at c0
      rw [add_up] at c1 c2 c3
      have hvk := HK.out j hlt
      rw [hs] at hvk
      simp only [Option.getD_some] at hvk
      have HPB : Hid (putB fs xs (j + 1) = putB fs xs j ++ leP sz.toNat (xs[j]?.getD 0)) := hid (by show _ ++ leP _ _ = _; rw [hs]; rfl)
      obtain ⟨rest', hrest'⟩ := put_more fs xs (j + 1) n (by omega)
      have HRE := hid hrest'
      rw [HPB.out, List.append_assoc, hrest] at hrest'
      have hre := List.append_cancel_left hrest'
      subst hre
      have HS := hid (out_set xs n j HX.out hlt)
      have HA := hid (out_at xs n j HX.out hlt)
      have HD := hid (out_old xs n j HX.out hlt)
      have hql := hr.1
      rw [List.length_append, leP_len] at hql
      generalize xs[j]?.getD 0 = x at *
      have hin := vk_in hvk
      have hfb := fk_bd _ _ (vk_fk hvk)
      have m1 : n - (j + 1) < n - j := by omega
      have j0 : (0 : Int) ≤ (j : Int) := by omega
      have j1 : (j : Int) < (n : Int) := by omega
      have hsz := hb.size
      have HH := hid h
      clear hcell hs h hrest' hrest
      obtain ⟨lo, hlo⟩ : ∃ lo, loP sg = lo := ⟨_, rfl⟩
      obtain ⟨hi, hhi⟩ : ∃ hi, hiP sz = hi := ⟨_, rfl⟩
      rw [hlo, hhi] at hin hfb
      rw [hlo] at c2
      rw [hhi] at c3
      clear hlo hhi
      have HI := hid fun w => sh_in sz lo hi x sg w ⟨hin.1, hin.2.1⟩
      obtain ⟨co2, hco2⟩ : ∃ co, List.map (Value.int .i64) (List.take (j + 1) xs ++ List.replicate (n - (j + 1)) 0) = co := ⟨_, rfl⟩
      rw [hco2] at HS HA
      have HC2 := hid hco2
      clear hco2
      generalize List.map (Value.int .i64) (List.take j xs ++ List.replicate (n - j) 0) = co1 at *
      go_upto_region 13 with fail
      clear c0 c1 c2 c3
      have bf := Blk.new wr 200 #[.int .i64 sz, .bool sg, .int .i64 lo, .int .i64 hi]
      have hgf := er.lt
      have hgo := eo.lt
      replace er := er.alloc (.cells #[.int .i64 sz, .bool sg, .int .i64 lo, .int .i64 hi] 200)
      replace eo := eo.alloc (.cells #[.int .i64 sz, .bool sg, .int .i64 lo, .int .i64 hi] 200)
      replace hr := hr.alloc (by omega) (.cells #[.int .i64 sz, .bool sg, .int .i64 lo, .int .i64 hi] 200)
      replace hb := hb.alloc hsz (.cells #[.int .i64 sz, .bool sg, .int .i64 lo, .int .i64 hi] 200)
      generalize wr.alloc (.cells #[.int .i64 sz, .bool sg, .int .i64 lo, .int .i64 hi] 200) = W1 at *
      generalize wr.heap.size = gf at *
      cases sg
      · have HT := hid fun W (h1 : Blk W g 250 #[.slice Y q d, .bool true, .bool false]) h2 => sh_rF sz x g q d rest' Y W hvk h1 h2 hqd (by omega)
        clear hvk hin
        refine wp_region_noPanic ?_
        refine wp_region_held_drew (S := (fun w' : World => w'.cell? ⟨gf, 0, none⟩ = some (.int .i64 sz) ∧ w'.cell? ⟨gf, 1, none⟩ = some (.bool false) ∧ w'.cell? ⟨gf, 2, none⟩ = some (.int .i64 lo) ∧ w'.cell? ⟨gf, 3, none⟩ = some (.int .i64 hi))) (by kernel_rfl) ⟨bf.cell 0, bf.cell 1, bf.cell 2, bf.cell 3⟩ (fun hHeld => ?_)
        refine (show wpAnyH _ _ _ _ _ 11 _ _ _ from ?_)
        try (simp only [Act.put, List.setIfInBounds_toArray, List.set_cons_zero, List.set_cons_succ])
        replace bf := bf.drew
        replace er := er.drew
        replace eo := eo.drew
        replace hr := hr.drew
        replace hb := hb.drew
        generalize W1.drew = V0 at *
        refine tk 0 hHeld ?_
        refine tk 1 hHeld ?_
        refine tk 2 hHeld ?_
        refine tk 5 hHeld ?_
        refine tk 6 hHeld ?_
        refine tk 7 hHeld ?_
        refine rd1 3 (fun K hK => ?_)
        go_simp
        refine (sh_of_false sz lo hi _).mono ?_
        rintro e V1 ⟨rfl, b1⟩
        go_wp2_with fail
        have hsV := b1.size
        replace bf := bf.below b1 bf.lt
        replace hr := hr.below (b1.mono (by have := er.lt; omega))
        replace er := er.below b1 er.lt
        replace eo := eo.below b1 eo.lt
        replace hb := hb.trans (b1.mono hb.size)
        clear b1 hsV
        refine hK.out _ _ ⟨bf.cell 0, bf.cell 1, bf.cell 2, bf.cell 3⟩ (fun hHeld => ?_)
        clear hK K
        try (simp only [Act.put, List.setIfInBounds_toArray, List.set_cons_zero, List.set_cons_succ])
        refine tk 4 hHeld ?_
        have HC := hid (HT.out V1 er hr)
        refine rd1 8 (fun K hK => ?_)
        go_simp
        refine HC.out.mono ?_
        clear HC
        rintro e V2 ⟨rfl, rfl⟩
        go_wp2_with fail
        replace hr := (hr.cut (j := sz.toNat) (by omega) hqd).setCell (p := ⟨g, 0, none⟩) (Nat.le_refl _) (.slice (cutA Y d sz.toNat) (q - sz.toNat) (d - sz.toNat))
        have er2 := er.set_ 0 (.slice (cutA Y d sz.toNat) (q - sz.toNat) (d - sz.toNat))
        simp only [List.setIfInBounds_toArray, List.set_cons_zero, List.set_cons_succ] at er2
        clear er
        have er := er2
        clear er2
        replace bf := bf.far (p := ⟨g, 0, none⟩) (by dsimp only; omega) (.slice (cutA Y d sz.toNat) (q - sz.toNat) (d - sz.toNat))
        replace eo := eo.far (p := ⟨g, 0, none⟩) (by dsimp only; omega) (.slice (cutA Y d sz.toNat) (q - sz.toNat) (d - sz.toNat))
        replace hb := hb.setCell (p := ⟨g, 0, none⟩) hg (.slice (cutA Y d sz.toNat) (q - sz.toNat) (d - sz.toNat))
        generalize V1.setCell ⟨g, 0, none⟩ (.slice (cutA Y d sz.toNat) (q - sz.toNat) (d - sz.toNat)) = V2 at *
        refine hK.out _ _ ⟨bf.cell 0, bf.cell 1, bf.cell 2, bf.cell 3⟩ (fun hHeld => ?_)
        clear hK K
        try (simp only [Act.put, List.setIfInBounds_toArray, List.set_cons_zero, List.set_cons_succ])
        refine tk 9 hHeld ?_
        refine rd1 10 (fun K hK => ?_)
        have cc : V2.cell? ⟨go, j, none⟩ = some (.int .i64 0) := (eo.cell j).trans HD.out
        have zz := eo.frozen j
        go_simp
        try go_wp2_with fail
        clear cc zz
        have eo2 := eo.set_ j (.int .i64 x)
        rw [HS.out] at eo2
        clear eo
        have eo := eo2
        clear eo2
        replace bf := bf.far (p := ⟨go, j, none⟩) (by dsimp only; omega) (.int .i64 x)
        replace er := er.far (p := ⟨go, j, none⟩) (by dsimp only; omega) (.int .i64 x)
        replace hr := hr.setCell (p := ⟨go, j, none⟩) (by dsimp only; omega) (.int .i64 x)
        replace hb := hb.setCell (p := ⟨go, j, none⟩) (by dsimp only; omega) (.int .i64 x)
        generalize V2.setCell ⟨go, j, none⟩ (.int .i64 x) = V3 at *
        refine hK.out _ _ ⟨bf.cell 0, bf.cell 1, bf.cell 2, bf.cell 3⟩ (fun hHeld => ?_)
        clear hK K
        try (simp only [Act.put, List.setIfInBounds_toArray, List.set_cons_zero, List.set_cons_succ])
        refine wpAnyH_done (by kernel_rfl) ?_ _
        refine NoPanic.normal ?_
        clear hHeld
        go_upto_region 14 with fail
        refine wp_region_noPanic ?_
        refine wp_region_held_drew (S := (fun w' : World => w'.cell? ⟨gf, 0, none⟩ = some (.int .i64 sz) ∧ w'.cell? ⟨gf, 1, none⟩ = some (.bool false) ∧ w'.cell? ⟨gf, 2, none⟩ = some (.int .i64 lo) ∧ w'.cell? ⟨gf, 3, none⟩ = some (.int .i64 hi) ∧ w'.cell? ⟨go, j, none⟩ = some (.int .i64 x))) (by kernel_rfl) ⟨bf.cell 0, bf.cell 1, bf.cell 2, bf.cell 3, (eo.cell j).trans HA.out⟩ (fun hHeld => ?_)
        refine (show wpAnyH _ _ _ _ _ 7 _ _ _ from ?_)
        try (simp only [Act.put, List.setIfInBounds_toArray, List.set_cons_zero, List.set_cons_succ])
        replace bf := bf.drew
        replace er := er.drew
        replace eo := eo.drew
        replace hr := hr.drew
        replace hb := hb.drew
        generalize V3.drew = V4 at *
        refine tk 0 hHeld ?_
        refine tk 1 hHeld ?_
        refine tk 2 hHeld ?_
        refine tk 3 hHeld ?_
        refine tk 4 hHeld ?_
        refine rd1 5 (fun K hK => ?_)
        go_simp
        refine (HI.out _).mono ?_
        rintro e V5 ⟨rfl, b1⟩
        go_wp2_with fail
        have hsV := b1.size
        replace bf := bf.below b1 bf.lt
        replace hr := hr.below (b1.mono (by have := er.lt; omega))
        replace er := er.below b1 er.lt
        replace eo := eo.below b1 eo.lt
        replace hb := hb.trans (b1.mono hb.size)
        clear b1 hsV
        refine hK.out _ _ ⟨bf.cell 0, bf.cell 1, bf.cell 2, bf.cell 3, (eo.cell j).trans HA.out⟩ (fun hHeld => ?_)
        clear hK K
        try (simp only [Act.put, List.setIfInBounds_toArray, List.set_cons_zero, List.set_cons_succ])
        refine tk 6 hHeld ?_
        refine wpAnyH_done (by kernel_rfl) ?_ _
        refine NoPanic.normal ?_
        clear hHeld bf
        go_wp2_with fail
        go_roundw
        case rel => exact ⟨j + 1, q - sz.toNat, d - sz.toNat, _, rest', by omega, by go_num, HRE.out, by omega, by omega, er, by rw [List.drop_left' (leP_len _ _)] at hr; exact hr, by rw [HC2.out]; exact eo, hb⟩
        case measure => simpa [intOf] using m1
      · obtain ⟨rfl, rfl⟩ : sz = 2 ∧ x = 0 := by
          rcases hvk with ⟨_, h, _⟩ | ⟨_, h, _⟩ | ⟨h1, _, h2⟩
          · cases h
          · cases h
          · exact ⟨h1, h2⟩
        have HT := hid fun W (h1 : Blk W g 250 #[.slice Y q d, .bool true, .bool false]) (h2 : Row .u8 W g Y q (leP (Int.toNat 2) 0 ++ rest')) => o_RI2 g q d rest' Y W h1 (by rw [show leP (Int.toNat 2) 0 = [0, 0] from le2z] at h2; exact h2) hqd (by omega)
        clear hvk hin
        refine wp_region_noPanic ?_
        refine wp_region_held_drew (S := (fun w' : World => w'.cell? ⟨gf, 0, none⟩ = some (.int .i64 2) ∧ w'.cell? ⟨gf, 1, none⟩ = some (.bool true) ∧ w'.cell? ⟨gf, 2, none⟩ = some (.int .i64 lo) ∧ w'.cell? ⟨gf, 3, none⟩ = some (.int .i64 hi))) (by kernel_rfl) ⟨bf.cell 0, bf.cell 1, bf.cell 2, bf.cell 3⟩ (fun hHeld => ?_)
        refine (show wpAnyH _ _ _ _ _ 11 _ _ _ from ?_)
        try (simp only [Act.put, List.setIfInBounds_toArray, List.set_cons_zero, List.set_cons_succ])
        replace bf := bf.drew
        replace er := er.drew
        replace eo := eo.drew
        replace hr := hr.drew
        replace hb := hb.drew
        generalize W1.drew = V0 at *
        refine tk 0 hHeld ?_
        refine tk 1 hHeld ?_
        refine tk 2 hHeld ?_
        refine tk 5 hHeld ?_
        refine tk 6 hHeld ?_
        refine tk 7 hHeld ?_
        refine rd1 3 (fun K hK => ?_)
        go_simp
        refine (sh_of_true 2 lo hi _).mono ?_
        rintro e V1 ⟨rfl, b1⟩
        go_wp2_with fail
        have hsV := b1.size
        replace bf := bf.below b1 bf.lt
        replace hr := hr.below (b1.mono (by have := er.lt; omega))
        replace er := er.below b1 er.lt
        replace eo := eo.below b1 eo.lt
        replace hb := hb.trans (b1.mono hb.size)
        clear b1 hsV
        refine hK.out _ _ ⟨bf.cell 0, bf.cell 1, bf.cell 2, bf.cell 3⟩ (fun hHeld => ?_)
        clear hK K
        try (simp only [Act.put, List.setIfInBounds_toArray, List.set_cons_zero, List.set_cons_succ])
        refine tk 4 hHeld ?_
        have HC := hid (HT.out V1 er hr)
        refine rd1 8 (fun K hK => ?_)
        go_simp
        refine HC.out.mono ?_
        clear HC
        rintro e V2 ⟨rfl, rfl⟩
        go_wp2_with fail
        replace hr := (hr.cut (j := 2) (by omega) hqd).setCell (p := ⟨g, 0, none⟩) (Nat.le_refl _) (.slice (cutA Y d 2) (q - 2) (d - 2))
        have er2 := er.set_ 0 (.slice (cutA Y d 2) (q - 2) (d - 2))
        simp only [List.setIfInBounds_toArray, List.set_cons_zero, List.set_cons_succ] at er2
        clear er
        have er := er2
        clear er2
        replace bf := bf.far (p := ⟨g, 0, none⟩) (by dsimp only; omega) (.slice (cutA Y d 2) (q - 2) (d - 2))
        replace eo := eo.far (p := ⟨g, 0, none⟩) (by dsimp only; omega) (.slice (cutA Y d 2) (q - 2) (d - 2))
        replace hb := hb.setCell (p := ⟨g, 0, none⟩) hg (.slice (cutA Y d 2) (q - 2) (d - 2))
        generalize V1.setCell ⟨g, 0, none⟩ (.slice (cutA Y d 2) (q - 2) (d - 2)) = V2 at *
        refine hK.out _ _ ⟨bf.cell 0, bf.cell 1, bf.cell 2, bf.cell 3⟩ (fun hHeld => ?_)
        clear hK K
        try (simp only [Act.put, List.setIfInBounds_toArray, List.set_cons_zero, List.set_cons_succ])
        refine tk 9 hHeld ?_
        refine rd1 10 (fun K hK => ?_)
        have cc : V2.cell? ⟨go, j, none⟩ = some (.int .i64 0) := (eo.cell j).trans HD.out
        have zz := eo.frozen j
        go_simp
        try go_wp2_with fail
        clear cc zz
        have eo2 := eo.set_ j (.int .i64 0)
        rw [HS.out] at eo2
        clear eo
        have eo := eo2
        clear eo2
        replace bf := bf.far (p := ⟨go, j, none⟩) (by dsimp only; omega) (.int .i64 0)
        replace er := er.far (p := ⟨go, j, none⟩) (by dsimp only; omega) (.int .i64 0)
        replace hr := hr.setCell (p := ⟨go, j, none⟩) (by dsimp only; omega) (.int .i64 0)
        replace hb := hb.setCell (p := ⟨go, j, none⟩) (by dsimp only; omega) (.int .i64 0)
        generalize V2.setCell ⟨go, j, none⟩ (.int .i64 0) = V3 at *
        refine hK.out _ _ ⟨bf.cell 0, bf.cell 1, bf.cell 2, bf.cell 3⟩ (fun hHeld => ?_)
        clear hK K
        try (simp only [Act.put, List.setIfInBounds_toArray, List.set_cons_zero, List.set_cons_succ])
        refine wpAnyH_done (by kernel_rfl) ?_ _
        refine NoPanic.normal ?_
        clear hHeld
        go_upto_region 14 with fail
        refine wp_region_noPanic ?_
        refine wp_region_held_drew (S := (fun w' : World => w'.cell? ⟨gf, 0, none⟩ = some (.int .i64 2) ∧ w'.cell? ⟨gf, 1, none⟩ = some (.bool true) ∧ w'.cell? ⟨gf, 2, none⟩ = some (.int .i64 lo) ∧ w'.cell? ⟨gf, 3, none⟩ = some (.int .i64 hi) ∧ w'.cell? ⟨go, j, none⟩ = some (.int .i64 0))) (by kernel_rfl) ⟨bf.cell 0, bf.cell 1, bf.cell 2, bf.cell 3, (eo.cell j).trans HA.out⟩ (fun hHeld => ?_)
        refine (show wpAnyH _ _ _ _ _ 7 _ _ _ from ?_)
        try (simp only [Act.put, List.setIfInBounds_toArray, List.set_cons_zero, List.set_cons_succ])
        replace bf := bf.drew
        replace er := er.drew
        replace eo := eo.drew
        replace hr := hr.drew
        replace hb := hb.drew
        generalize V3.drew = V4 at *
        refine tk 0 hHeld ?_
        refine tk 1 hHeld ?_
        refine tk 2 hHeld ?_
        refine tk 3 hHeld ?_
        refine tk 4 hHeld ?_
        refine rd1 5 (fun K hK => ?_)
        go_simp
        refine (HI.out _).mono ?_
        rintro e V5 ⟨rfl, b1⟩
        go_wp2_with fail
        have hsV := b1.size
        replace bf := bf.below b1 bf.lt
        replace hr := hr.below (b1.mono (by have := er.lt; omega))
        replace er := er.below b1 er.lt
        replace eo := eo.below b1 eo.lt
        replace hb := hb.trans (b1.mono hb.size)
        clear b1 hsV
        refine hK.out _ _ ⟨bf.cell 0, bf.cell 1, bf.cell 2, bf.cell 3, (eo.cell j).trans HA.out⟩ (fun hHeld => ?_)
        clear hK K
        try (simp only [Act.put, List.setIfInBounds_toArray, List.set_cons_zero, List.set_cons_succ])
        refine tk 6 hHeld ?_
        refine wpAnyH_done (by kernel_rfl) ?_ _
        refine NoPanic.normal ?_
        clear hHeld bf
        go_wp2_with fail
        go_roundw
        case rel => exact ⟨j + 1, q - 2, d - 2, _, rest', by omega, by go_num, HRE.out, by omega, by omega, er, by rw [show leP (Int.toNat 2) 0 = [0, 0] from le2z] at hr; exact hr, by rw [HC2.out]; exact eo, hb⟩
        case measure => simpa [intOf] using m1
    · obtain rfl : j = n := by omega
      have e : xs.take j ++ List.replicate (j - j) 0 = xs := by rw [List.take_of_length_le (by rw [HX.out]; exact Nat.le_refl _)]; simp
      rw [e] at eo
      have HE := hid (own_blk (base := w.heap.size) eo HX.out (by omega) (by unfold maxLen; omega))
      clear e h eo er hr hrest
      go_wp2
      go_ret2
      exact HO.out _ _ HE.out hb
end Go.Proofs.YtldoocndhfgjhaaGreat
