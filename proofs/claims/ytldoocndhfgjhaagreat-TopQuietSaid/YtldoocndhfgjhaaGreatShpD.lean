/- Chapter 14: numbers written by a shape. -/
import Derived.Test.YtldoocndhfgjhaaGreatShpC
namespace Go.Proofs.YtldoocndhfgjhaaGreat
open Go.RowKit
set_option linter.unusedVariables false
set_option linter.unusedSimpArgs false

theorem sh_wF (sz x : Int) (g base m c : Nat) (A : Option Addr) (ys : List Int) (w : World) (h : VK sz false x) (hb : Wr w g (.slice A m c)) (ho : Own .u8 w base 5 A m c ys) (hg : base ≤ g) (hm : m ≤ 1000000) (hbs : base ≤ w.heap.size) :
    Calls Tryz.prog 149 #[.pointer (some ⟨g, 0, none⟩), .int .i64 sz, .int .i64 x] w (Wrote sz.toNat x g base m ys w) := by
  rcases h with ⟨rfl, _, h⟩ | ⟨rfl, _, h⟩ | ⟨_, h, _⟩
  · exact sh_w1 x g base m c A ys w h hb ho hg hm hbs
  · exact sh_w4 x g base m c A ys w h hb ho hg hm hbs
  · cases h
theorem field_way0 (a b : Nat) (w : World) : (Instr.field 209 (.agg #[.func (.func a) #[] #[], .func (.func b) #[] #[]]) 0).run Tryz.prog w = .ok (.func (.func a) #[] #[]) w := by
  have hu := Tryz.underlying209
  have ha := Tryz.underlying206
  simp [Instr.field, asAgg, run_underlying hu, run_underlying ha, part, isAgg]
theorem own_lower {k : IntKind} {w : World} {base base' : Nat} {e : TypeId} {A : Option Addr} {n c : Nat} {ys : List Int} (h : Own k w base e A n c ys) (hb : base' ≤ base) : Own k w base' e A n c ys := by
  refine ⟨h.1, ?_⟩
  rcases h.2 with h1 | ⟨g, cap, cur, h1, h2, h3⟩
  · exact .inl h1
  · exact .inr ⟨g, cap, cur, h1, Nat.le_trans hb h2, h3⟩
/-- The bytes of the first numbers. -/
def putB (fs : List (Int × Bool)) (xs : List Int) : Nat → List Int
  | 0 => []
  | j + 1 => putB fs xs j ++ leP (fs[j]?.getD (0, false)).1.toNat (xs[j]?.getD 0)
/-- Bytes, and no error. -/
def PutOut (bs : List Int) (w : World) (e : Ending) (w' : World) : Prop := ∃ X d, e = .returned (.tuple #[.slice X bs.length d, .int .i64 0]) ∧ Own .u8 w' w.heap.size 5 X bs.length d bs ∧ Below w.heap.size w w'
set_option maxRecDepth 20000 in
set_option maxHeartbeats 16000000 in
theorem sh_Put (A B : Option Addr) (n cap cap2 : Nat) (fs : List (Int × Bool)) (xs : List Int) (w : World) (hnn : fs.length = n) (hxx : xs.length = n) (h : Tab 4 w w.heap.size A n (fs.map fieldV)) (hv : Row .i64 w w.heap.size B n xs) (hn : n ≤ 100) (hn0 : 0 < n)
    (hk : ∀ j, j < n → VK (fs[j]?.getD (0, false)).1 (fs[j]?.getD (0, false)).2 (xs[j]?.getD 0)) :
    Calls Tryz.prog 144 #[.slice A n cap, .slice B n cap2] w (PutOut (putB fs xs n) w) := by
  have hkf : ∀ t ∈ fs, FK t.1 t.2 := by
    intro t ht
    obtain ⟨j, hj, e⟩ := List.getElem_of_mem ht
    have := hk j (by omega)
    rw [List.getElem?_eq_getElem hj, e] at this
    exact vk_fk this
  have HR := hid (sh_Right A n cap fs w hnn h (by omega) hkf)
  have HL := hid hnn
  have HV := hid hv
  have hf0 := field_way0 149 150
  have hf1 := field_way0 112 113
  have HK := hid hk
  clear hnn hkf hv hk
  go_enter Tryz.func144, Tryz.ntmps144
  go_wp2_with fail
  refine HR.out.mono ?_
  rintro e w0 ⟨rfl, hb⟩
  clear HR
  go_wp2_with fail
  refine (o_Make w0).mono ?_
  rintro e w1 ⟨rfl, rfl⟩
  have e0 : Wr (w0.alloc (.cells #[.slice none 0 0, .bool true, .bool false] 335)) w0.heap.size (.slice none 0 0) := Blk.new w0 _ _
  have hg := hb.size
  replace hb := hb.alloc hb.size (.cells #[.slice none 0 0, .bool true, .bool false] 335)
  generalize w0.alloc (.cells #[.slice none 0 0, .bool true, .bool false] 335) = W0 at *
  generalize w0.heap.size = g at *
  go_wp2_with fail
  go_loopw [22] (fun i wr => ∃ (j : Nat) (X : Option Addr) (d m : Nat), j ≤ n ∧ i = .int .i64 j ∧ m = (putB fs xs j).length ∧ m ≤ 8 * j ∧ j ≤ m ∧ Wr wr g (.slice X m d) ∧ Own .u8 wr w.heap.size 5 X m d (putB fs xs j) ∧ Below w.heap.size w wr) (fun i _ => n - (intOf i).toNat)
  case atStart => exact ⟨0, none, 0, 0, Nat.zero_le _, rfl, rfl, by omega, by omega, e0, Own.nil_ _ _ _ _, hb⟩
  case round =>
    clear e0 hb
    obtain ⟨j, X, d, m, hj, rfl, hm, hm8, hmj, e0, ho, hb⟩ := hrel
    by_cases hlt : j < n
    · obtain ⟨⟨sz, sg⟩, hs⟩ : ∃ t, fs[j]? = some t := ⟨_, List.getElem?_eq_getElem (by rw [HL.out]; exact hlt)⟩
      obtain ⟨ad, rfl, _, hcell⟩ := (h.below hb).at_ (j := j) (p := fieldV (sz, sg)) (by rw [List.getElem?_map, hs]; rfl)
      have c0 := hcell 0 (.int .i64 sz) rfl
      have c1 := hcell 1 (.bool sg) rfl
      have c2 := hcell 2 (.int .i64 (loP sg)) rfl
      have c3 := hcell 3 (.int .i64 (hiP sz)) rfl
      rw [Nat.add_zero] at c0
      rw [add_up] at c1 c2 c3
      obtain ⟨ax, rfl, _⟩ := (HV.out.below hb).at_ hlt
      have hvx0 : ∀ W', Below w.heap.size w W' → W'.cell? (ax.add j) = some (.int .i64 (xs[j]?.getD 0)) := fun W' hb' => ((HV.out.below hb').2.2 ax rfl j hlt).2
      have hvk := HK.out j hlt
      rw [hs] at hvk
      simp only [Option.getD_some] at hvk
      have HPB : Hid (putB fs xs (j + 1) = putB fs xs j ++ leP sz.toNat (xs[j]?.getD 0)) := hid (by show _ ++ leP _ _ = _; rw [hs]; rfl)
      obtain ⟨x, hx⟩ : ∃ x, xs[j]?.getD 0 = x := ⟨_, rfl⟩
      rw [hx] at hvk HPB
      have hvx : ∀ W', Below w.heap.size w W' → W'.cell? (ax.add j) = some (.int .i64 x) := fun W' hb' => by rw [← hx]; exact hvx0 W' hb'
      clear hx hvx0
      have hin := vk_in hvk
      have hfb := fk_bd _ _ (vk_fk hvk)
      have m1 : n - (j + 1) < n - j := by omega
      have j0 : (0 : Int) ≤ (j : Int) := by omega
      have j1 : (j : Int) < (n : Int) := by omega
      have hsz := hb.size
      have HH := hid h
      have HLe : Hid ((leP sz.toNat x).length = sz.toNat) := hid (leP_len _ _)
      clear hcell hs h
      obtain ⟨lo, hlo⟩ : ∃ lo, loP sg = lo := ⟨_, rfl⟩
      obtain ⟨hi, hhi⟩ : ∃ hi, hiP sz = hi := ⟨_, rfl⟩
      rw [hlo, hhi] at hin hfb
      rw [hlo] at c2
      rw [hhi] at c3
      clear hlo hhi
      have HI := hid fun w => sh_in sz lo hi x sg w ⟨hin.1, hin.2.1⟩
      go_upto_region 7 with fail
      clear c0 c1 c2 c3
      have bf := Blk.new wr 200 #[.int .i64 sz, .bool sg, .int .i64 lo, .int .i64 hi]
      have hgf := e0.lt
      have e0b := e0.alloc (.cells #[.int .i64 sz, .bool sg, .int .i64 lo, .int .i64 hi] 200)
      clear e0
      have e0 : Wr (wr.alloc (.cells #[.int .i64 sz, .bool sg, .int .i64 lo, .int .i64 hi] 200)) g (.slice X m d) := e0b
      clear e0b
      replace ho := ho.alloc (.cells #[.int .i64 sz, .bool sg, .int .i64 lo, .int .i64 hi] 200)
      replace hb := hb.alloc hsz (.cells #[.int .i64 sz, .bool sg, .int .i64 lo, .int .i64 hi] 200)
      generalize wr.alloc (.cells #[.int .i64 sz, .bool sg, .int .i64 lo, .int .i64 hi] 200) = W1 at *
      generalize wr.heap.size = gf at *
      generalize putB fs xs j = ys at *
      unfold Wr at e0
      cases sg
      · have HP := hid fun W X d m (h1 : Blk W g 335 #[.slice X m d, .bool true, .bool false]) h2 h3 h4 => sh_wF sz x g w.heap.size m d X ys W hvk h1 h2 hg h3 h4
        clear hvk hin
        go_upto_region 7 with fail
        refine wp_region_noPanic ?_
        refine wp_region_held_drew (S := (fun w' : World => w'.cell? ⟨gf, 0, none⟩ = some (.int .i64 sz) ∧ w'.cell? ⟨gf, 1, none⟩ = some (.bool false) ∧ w'.cell? ⟨gf, 2, none⟩ = some (.int .i64 lo) ∧ w'.cell? ⟨gf, 3, none⟩ = some (.int .i64 hi) ∧ w'.cell? (ax.add j) = some (.int .i64 x))) (by kernel_rfl) ⟨bf.cell 0, bf.cell 1, bf.cell 2, bf.cell 3, hvx _ hb.drew⟩ (fun hHeld => ?_)
        refine (show wpAnyH _ _ _ _ _ 7 _ _ _ from ?_)
        try (simp only [Act.put, List.setIfInBounds_toArray, List.set_cons_zero, List.set_cons_succ])
        replace bf := bf.drew
        replace e0 := e0.drew
        replace ho := ho.drew
        replace hb := hb.drew
        generalize W1.drew = V0 at *
        refine tk 0 hHeld ?_
        refine tk 1 hHeld ?_
        refine tk 2 hHeld ?_
        refine tk 3 hHeld ?_
        refine tk 4 hHeld ?_
        refine rd1 5 (fun K hK => ?_)
        go_simp
        refine (HI.out _).mono ?_
        rintro e V1 ⟨rfl, b1⟩
        go_wp2_with fail
        replace bf := bf.below b1 bf.lt
        replace e0 := e0.below b1 e0.lt
        replace ho := ho.below b1 (Nat.le_refl _)
        replace hb := hb.trans (b1.mono hb.size)
        clear b1
        refine hK.out _ _ ⟨bf.cell 0, bf.cell 1, bf.cell 2, bf.cell 3, hvx _ hb⟩ (fun hHeld => ?_)
        clear hK K
        try (simp only [Act.put, List.setIfInBounds_toArray, List.set_cons_zero, List.set_cons_succ])
        refine tk 6 hHeld ?_
        refine wpAnyH_done (by kernel_rfl) ?_ _
        refine NoPanic.normal ?_
        clear hHeld
        go_upto_region 9 with fail
        refine wp_region_noPanic ?_
        refine wp_region_held_drew (S := (fun w' : World => w'.cell? ⟨gf, 0, none⟩ = some (.int .i64 sz) ∧ w'.cell? ⟨gf, 1, none⟩ = some (.bool false) ∧ w'.cell? ⟨gf, 2, none⟩ = some (.int .i64 lo) ∧ w'.cell? ⟨gf, 3, none⟩ = some (.int .i64 hi) ∧ w'.cell? (ax.add j) = some (.int .i64 x))) (by kernel_rfl) ⟨bf.cell 0, bf.cell 1, bf.cell 2, bf.cell 3, hvx _ hb.drew⟩ (fun hHeld => ?_)
        refine (show wpAnyH _ _ _ _ _ 11 _ _ _ from ?_)
        try (simp only [Act.put, List.setIfInBounds_toArray, List.set_cons_zero, List.set_cons_succ])
        replace bf := bf.drew
        replace e0 := e0.drew
        replace ho := ho.drew
        replace hb := hb.drew
        generalize V1.drew = V2 at *
        refine tk 0 hHeld ?_
        refine tk 3 hHeld ?_
        refine tk 4 hHeld ?_
        refine tk 5 hHeld ?_
        refine tk 6 hHeld ?_
        refine tk 7 hHeld ?_
        refine tk 8 hHeld ?_
        refine tk 9 hHeld ?_
        refine rd1 1 (fun K hK => ?_)
        go_simp
        refine (sh_of_false sz lo hi _).mono ?_
        rintro e V3 ⟨rfl, b1⟩
        go_wp2_with fail
        replace bf := bf.below b1 bf.lt
        replace e0 := e0.below b1 e0.lt
        replace ho := ho.below b1 (Nat.le_refl _)
        replace hb := hb.trans (b1.mono hb.size)
        clear b1
        refine hK.out _ _ ⟨bf.cell 0, bf.cell 1, bf.cell 2, bf.cell 3, hvx _ hb⟩ (fun hHeld => ?_)
        clear hK K
        try (simp only [Act.put, List.setIfInBounds_toArray, List.set_cons_zero, List.set_cons_succ])
        refine tk 2 hHeld ?_
        have hsv := hb.size
        have HC := hid (HP.out V3 X d m e0 ho (by omega) (by omega))
        refine rd1 10 (fun K hK => ?_)
        go_simp
        refine HC.out.mono ?_
        clear HC hHeld
        rintro e V4 ⟨rfl, X2, d2, e1, ho1, b1, kt⟩
        replace bf := kt _ _ _ (by decide) (by omega) bf
        clear kt e0 ho
        have e0 := e1
        have ho := ho1
        clear e1 ho1
        go_wp2_with fail
        replace hb := hb.trans b1
        clear b1
        refine hK.out _ _ ⟨bf.cell 0, bf.cell 1, bf.cell 2, bf.cell 3, hvx _ hb⟩ (fun hHeld => ?_)
        clear hK K
        try (simp only [Act.put, List.setIfInBounds_toArray, List.set_cons_zero, List.set_cons_succ])
        refine wpAnyH_done (by kernel_rfl) ?_ _
        refine NoPanic.normal ?_
        clear hHeld bf
        go_wp2_with fail
        go_roundw
        case rel => exact ⟨j + 1, X2, d2, m + sz.toNat, by omega, by go_num, by rw [HPB.out, List.length_append, HLe.out, hm] <;> rfl, by omega, by omega, e0, by rw [HPB.out]; exact ho, hb⟩
        case measure => simpa [intOf] using m1
      · obtain ⟨rfl, rfl⟩ : sz = 2 ∧ x = 0 := by
          rcases hvk with ⟨_, h, _⟩ | ⟨_, h, _⟩ | ⟨h1, _, h2⟩
          · cases h
          · cases h
          · exact ⟨h1, h2⟩
        have HP := hid fun W X d m (h1 : Blk W g 335 #[.slice X m d, .bool true, .bool false]) h2 h3 h4 => o_I2 g w.heap.size m d X ys W h1 h2 hg h3 h4
        clear hvk hin
        go_upto_region 7 with fail
        refine wp_region_noPanic ?_
        refine wp_region_held_drew (S := (fun w' : World => w'.cell? ⟨gf, 0, none⟩ = some (.int .i64 2) ∧ w'.cell? ⟨gf, 1, none⟩ = some (.bool true) ∧ w'.cell? ⟨gf, 2, none⟩ = some (.int .i64 lo) ∧ w'.cell? ⟨gf, 3, none⟩ = some (.int .i64 hi) ∧ w'.cell? (ax.add j) = some (.int .i64 0))) (by kernel_rfl) ⟨bf.cell 0, bf.cell 1, bf.cell 2, bf.cell 3, hvx _ hb.drew⟩ (fun hHeld => ?_)
        refine (show wpAnyH _ _ _ _ _ 7 _ _ _ from ?_)
        try (simp only [Act.put, List.setIfInBounds_toArray, List.set_cons_zero, List.set_cons_succ])
        replace bf := bf.drew
        replace e0 := e0.drew
        replace ho := ho.drew
        replace hb := hb.drew
        generalize W1.drew = V0 at *
        refine tk 0 hHeld ?_
        refine tk 1 hHeld ?_
        refine tk 2 hHeld ?_
        refine tk 3 hHeld ?_
        refine tk 4 hHeld ?_
        refine rd1 5 (fun K hK => ?_)
        go_simp
        refine (HI.out _).mono ?_
        rintro e V1 ⟨rfl, b1⟩
        go_wp2_with fail
        replace bf := bf.below b1 bf.lt
        replace e0 := e0.below b1 e0.lt
        replace ho := ho.below b1 (Nat.le_refl _)
        replace hb := hb.trans (b1.mono hb.size)
        clear b1
        refine hK.out _ _ ⟨bf.cell 0, bf.cell 1, bf.cell 2, bf.cell 3, hvx _ hb⟩ (fun hHeld => ?_)
        clear hK K
        try (simp only [Act.put, List.setIfInBounds_toArray, List.set_cons_zero, List.set_cons_succ])
        refine tk 6 hHeld ?_
        refine wpAnyH_done (by kernel_rfl) ?_ _
        refine NoPanic.normal ?_
        clear hHeld
        go_upto_region 9 with fail
        refine wp_region_noPanic ?_
        refine wp_region_held_drew (S := (fun w' : World => w'.cell? ⟨gf, 0, none⟩ = some (.int .i64 2) ∧ w'.cell? ⟨gf, 1, none⟩ = some (.bool true) ∧ w'.cell? ⟨gf, 2, none⟩ = some (.int .i64 lo) ∧ w'.cell? ⟨gf, 3, none⟩ = some (.int .i64 hi) ∧ w'.cell? (ax.add j) = some (.int .i64 0))) (by kernel_rfl) ⟨bf.cell 0, bf.cell 1, bf.cell 2, bf.cell 3, hvx _ hb.drew⟩ (fun hHeld => ?_)
        refine (show wpAnyH _ _ _ _ _ 11 _ _ _ from ?_)
        try (simp only [Act.put, List.setIfInBounds_toArray, List.set_cons_zero, List.set_cons_succ])
        replace bf := bf.drew
        replace e0 := e0.drew
        replace ho := ho.drew
        replace hb := hb.drew
        generalize V1.drew = V2 at *
        refine tk 0 hHeld ?_
        refine tk 3 hHeld ?_
        refine tk 4 hHeld ?_
        refine tk 5 hHeld ?_
        refine tk 6 hHeld ?_
        refine tk 7 hHeld ?_
        refine tk 8 hHeld ?_
        refine tk 9 hHeld ?_
        refine rd1 1 (fun K hK => ?_)
        go_simp
        refine (sh_of_true 2 lo hi _).mono ?_
        rintro e V3 ⟨rfl, b1⟩
        go_wp2_with fail
        replace bf := bf.below b1 bf.lt
        replace e0 := e0.below b1 e0.lt
        replace ho := ho.below b1 (Nat.le_refl _)
        replace hb := hb.trans (b1.mono hb.size)
        clear b1
        refine hK.out _ _ ⟨bf.cell 0, bf.cell 1, bf.cell 2, bf.cell 3, hvx _ hb⟩ (fun hHeld => ?_)
        clear hK K
        try (simp only [Act.put, List.setIfInBounds_toArray, List.set_cons_zero, List.set_cons_succ])
        refine tk 2 hHeld ?_
        have hsv := hb.size
        have HC := hid (HP.out V3 X d m e0 ho (by omega) (by omega))
        refine rd1 10 (fun K hK => ?_)
        go_simp
        refine HC.out.mono ?_
        clear HC hHeld
        rintro e V4 ⟨rfl, X2, d2, e1, ho1, b1, kt⟩
        replace bf := kt _ _ _ (by decide) (by omega) bf
        clear kt e0 ho
        have e0 := e1
        have ho := ho1
        clear e1 ho1
        go_wp2_with fail
        replace hb := hb.trans b1
        clear b1
        refine hK.out _ _ ⟨bf.cell 0, bf.cell 1, bf.cell 2, bf.cell 3, hvx _ hb⟩ (fun hHeld => ?_)
        clear hK K
        try (simp only [Act.put, List.setIfInBounds_toArray, List.set_cons_zero, List.set_cons_succ])
        refine wpAnyH_done (by kernel_rfl) ?_ _
        refine NoPanic.normal ?_
        clear hHeld bf
        go_wp2_with fail
        go_roundw
        case rel => exact ⟨j + 1, X2, d2, m + 2, by omega, by go_num, by rw [HPB.out, List.length_append, HLe.out, hm] <;> rfl, by omega, by omega, e0, by rw [HPB.out]; exact ho, hb⟩
        case measure => simpa [intOf] using m1
    · obtain rfl : j = n := by omega
      obtain ⟨gx, rfl, _⟩ : ∃ gx, X = some ⟨gx, 0, none⟩ ∧ True := by
        rcases ho.form with ⟨_, h0, _⟩ | ⟨gx, h1, _⟩
        · omega
        · exact ⟨gx, h1, trivial⟩
      subst hm
      have HB := hid (o_Bytes g ⟨gx, 0, none⟩ (putB fs xs j).length d (putB fs xs j) wr e0 ho.row (by omega))
      have hsz := hb.size
      have HX : Hid (∀ X c w', Own .u8 w' wr.heap.size 5 X (putB fs xs j).length c (putB fs xs j) → Own .u8 w' w.heap.size 5 X (putB fs xs j).length c (putB fs xs j)) := hid fun X c w' h => own_lower h hsz
      have HO : Hid (∀ X c w', Own .u8 w' w.heap.size 5 X (putB fs xs j).length c (putB fs xs j) → Below w.heap.size w w' → PutOut (putB fs xs j) w (.returned (.tuple #[.slice X (putB fs xs j).length c, .int .i64 0])) w') := hid fun X c w' h1 h2 => ⟨X, c, rfl, h1, h2⟩
      clear h e0 ho hm8 hmj
      generalize (putB fs xs j).length = L at *
      go_wp2_with fail
      refine HB.out.mono ?_
      rintro e w2 ⟨X2, c2, rfl, o2, b2⟩
      have H2 := hid (HX.out _ _ _ o2)
      replace hb := hb.trans (b2.mono hb.size)
      clear o2 b2
      go_wp2
      go_ret2
      exact HO.out _ _ _ H2.out hb
end Go.Proofs.YtldoocndhfgjhaaGreat
