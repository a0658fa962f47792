/- Chapter 31: how many bytes a form has. -/
import Derived.Test.YtldoocndhfgjhaaGreatSchD
import Derived.Test.YtldoocndhfgjhaaGreatHeld
namespace Go.Proofs.YtldoocndhfgjhaaGreat
open Go.RowKit
set_option linter.unusedVariables false
set_option linter.unusedSimpArgs false

/-- A part: its size, with a sign or not, its name. -/
def partV (t : Int × Bool × ByteArray) : List Value := partL t.1 t.2.1 t.2.2
def GoodT (t : Int × Bool × ByteArray) : Prop := 1 ≤ t.1 ∧ t.1 ≤ 8
theorem even_partV (ts : List (Int × Bool × ByteArray)) : Even 4 (ts.map partV) := by
  intro p hp
  obtain ⟨t, _, rfl⟩ := List.mem_map.1 hp
  refine ⟨rfl, fun u hu => ?_⟩
  simp [partV, partL] at hu
  rcases hu with rfl | rfl | rfl | rfl <;> rfl
theorem s_numbers (s : ByteArray) (size : Int) (sg : Bool) (w : World) : Calls Tryz.prog 61 #[.agg #[.string s, .int .i64 size, .bool sg, .int .i64 0]] w fun e w' => e = .returned (.int .i64 1) ∧ Below w.heap.size w w' := by
  have hb := (Below.refl w.heap.size w).alloc (Nat.le_refl _) (.cells #[.string s, .int .i64 size, .bool sg, .int .i64 0] 190)
  have e0 := Blk.new w 190 #[.string s, .int .i64 size, .bool sg, .int .i64 0]
  go_enter Tryz.func61, Tryz.ntmps61
  go_upto_region 1 with fail
  generalize w.alloc (.cells #[.string s, .int .i64 size, .bool sg, .int .i64 0] 190) = W0 at *
  have q3 : W0.cell? ⟨w.heap.size, 3, none⟩ = some (.int .i64 0) := e0.cell 3
  go_wp2
  go_ret
  exact ⟨rfl, hb⟩
theorem s_width1 (s : ByteArray) (size : Int) (sg : Bool) (w : World) (h : 1 ≤ size ∧ size ≤ 8) : Calls Tryz.prog 60 #[.agg #[.string s, .int .i64 size, .bool sg, .int .i64 0]] w fun e w' => e = .returned (.int .i64 size) ∧ Below w.heap.size w w' := by
  have hb := (Below.refl w.heap.size w).alloc (Nat.le_refl _) (.cells #[.string s, .int .i64 size, .bool sg, .int .i64 0] 190)
  have e0 := Blk.new w 190 #[.string s, .int .i64 size, .bool sg, .int .i64 0]
  have uw : IntKind.i64.wrap size = size := IntWalk.i64_in _ (by omega)
  have uw2 : IntKind.i64.wrap (size * 1) = size := by rw [Int.mul_one]; exact uw
  have HN := hid fun w => s_numbers s size sg w
  go_enter Tryz.func60, Tryz.ntmps60
  go_upto_region 1 with fail
  generalize w.alloc (.cells #[.string s, .int .i64 size, .bool sg, .int .i64 0] 190) = W0 at *
  refine wp_region_noPanic ?_
  refine wp_region_held_drew (S := (fun w' : World => w'.cell? ⟨w.heap.size, 0, none⟩ = some (.string s) ∧ w'.cell? ⟨w.heap.size, 1, none⟩ = some (.int .i64 size) ∧ w'.cell? ⟨w.heap.size, 2, none⟩ = some (.bool sg) ∧ w'.cell? ⟨w.heap.size, 3, none⟩ = some (.int .i64 0))) (by kernel_rfl) ⟨e0.cell 0, e0.cell 1, e0.cell 2, e0.cell 3⟩ (fun hHeld => ?_)
  refine (show wpAnyH _ _ _ _ _ 6 _ _ _ from ?_)
  try (simp only [Act.put, List.setIfInBounds_toArray, List.set_cons_zero, List.set_cons_succ])
  replace e0 := e0.drew
  replace hb := hb.drew
  generalize W0.drew = V0 at *
  refine tk 0 hHeld ?_
  refine tk 1 hHeld ?_
  refine tk 2 hHeld ?_
  refine rd1 3 (fun K hK => ?_)
  go_simp
  refine (HN.out _).mono ?_
  rintro e w1 ⟨rfl, b1⟩
  go_wp2_with fail
  replace e0 := e0.below b1 e0.lt
  replace hb := hb.trans (b1.mono hb.size)
  refine hK.out _ _ ⟨e0.cell 0, e0.cell 1, e0.cell 2, e0.cell 3⟩ (fun hHeld => ?_)
  clear hK K
  try (simp only [Act.put, List.setIfInBounds_toArray, List.set_cons_zero, List.set_cons_succ])
  refine tk 4 hHeld ?_
  refine tk 5 hHeld ?_
  refine wpAnyH_done (by kernel_rfl) ?_ _
  refine NoPanic.normal ?_
  go_wp2
  go_ret
  exact ⟨rfl, hb⟩
def widthP (ts : List (Int × Bool × ByteArray)) : Int := ts.foldl (fun a t => a + t.1) 0
theorem width_snoc (ts : List (Int × Bool × ByteArray)) (j : Nat) (t : Int × Bool × ByteArray) (h : ts[j]? = some t) : widthP (ts.take (j + 1)) = widthP (ts.take j) + t.1 := by
  have hl := (List.getElem?_eq_some_iff.1 h).1
  have := (List.getElem?_eq_some_iff.1 h).2
  unfold widthP
  rw [List.take_succ_eq_append_getElem hl, List.foldl_append]
  simp [this]
theorem width_bd (ts : List (Int × Bool × ByteArray)) (h : ∀ t ∈ ts, GoodT t) : ∀ j, j ≤ ts.length → 0 ≤ widthP (ts.take j) ∧ widthP (ts.take j) ≤ 8 * (j : Int) := by
  intro j
  induction j with
  | zero => intro _; simp [widthP]
  | succ j ih =>
    intro hj
    obtain ⟨t, ht⟩ : ∃ t, ts[j]? = some t := ⟨_, List.getElem?_eq_getElem (by omega)⟩
    have h1 := ih (by omega)
    have h2 := h t (List.mem_of_getElem? ht)
    unfold GoodT at h2
    rw [width_snoc ts j t ht]
    omega
set_option maxHeartbeats 2000000 in
theorem s_sum (A : Option Addr) (cap : Nat) (ts : List (Int × Bool × ByteArray)) (w : World) (h : Tab 4 w w.heap.size A ts.length (ts.map partV)) (hn : ts.length ≤ 1000) (hg : ∀ t ∈ ts, GoodT t) :
    Calls Tryz.prog 58 #[.slice A ts.length cap, .func (.func 60) #[] #[]] w fun e w' => e = .returned (.int .i64 (widthP ts)) ∧ Below w.heap.size w w' := by
  obtain ⟨n, hnn⟩ : ∃ n, ts.length = n := ⟨_, rfl⟩
  have HL := hid hnn
  rw [hnn] at h hn ⊢
  clear hnn
  go_enter Tryz.func58, Tryz.ntmps58
  go_wp2
  go_loopw [5, 10] (fun p i wr => ∃ (j : Nat) (a : Int), j ≤ n ∧ i = .int .i64 j ∧ p = .int .i64 a ∧ a = widthP (ts.take j) ∧ Below w.heap.size w wr) (fun _ i _ => n - (intOf i).toNat)
  case atStart => exact ⟨0, 0, Nat.zero_le _, rfl, rfl, rfl, Below.refl _ _⟩
  case round =>
    obtain ⟨j, a, hj, rfl, rfl, ha, hb⟩ := hrel
    by_cases hlt : j < n
    · have hns : j < ts.length := by rw [HL.out]; exact hlt
      obtain ⟨⟨sz, sg, s⟩, hs⟩ : ∃ t, ts[j]? = some t := ⟨_, List.getElem?_eq_getElem hns⟩
      obtain ⟨ad, rfl, _, hcell⟩ := (h.below hb).at_ (j := j) (p := partL sz sg s) (by rw [List.getElem?_map, hs]; rfl)
      have c0 := hcell 0 (.string s) rfl
      have c1 := hcell 1 (.int .i64 sz) rfl
      have c2 := hcell 2 (.bool sg) rfl
      have c3 := hcell 3 (.int .i64 0) rfl
      rw [Nat.add_zero] at c0
      rw [add_up] at c1 c2 c3
      have hgt : GoodT (sz, sg, s) := hg _ (List.mem_of_getElem? hs)
      unfold GoodT at hgt
      dsimp only at hgt
      have hbd := width_bd ts hg j (by omega)
      rw [← ha] at hbd
      have HS := hid (width_snoc ts j _ hs)
      have HA := hid ha
      have ua : IntKind.i64.wrap (a + sz) = a + sz := IntWalk.i64_in _ (by omega)
      have HW := hid fun w => s_width1 s sz sg w hgt
      have m1 : n - (j + 1) < n - j := by omega
      have j0 : (0 : Int) ≤ (j : Int) := by omega
      have j1 : (j : Int) < (n : Int) := by omega
      have hsz := hb.size
      have HH := hid h
      have HG := hid hg
      clear hcell hs ha h hg hbd
      go_upto_region 5 with fail
      clear c0 c1 c2 c3
      have bf := Blk.new wr 190 #[.string s, .int .i64 sz, .bool sg, .int .i64 0]
      replace hb := hb.alloc hsz (.cells #[.string s, .int .i64 sz, .bool sg, .int .i64 0] 190)
      generalize wr.alloc (.cells #[.string s, .int .i64 sz, .bool sg, .int .i64 0] 190) = W1 at *
      generalize wr.heap.size = gf at *
      have c0 : W1.cell? ⟨gf, 0, none⟩ = some (.string s) := bf.cell 0
      have c1 : W1.cell? ⟨gf, 1, none⟩ = some (.int .i64 sz) := bf.cell 1
      have c2 : W1.cell? ⟨gf, 2, none⟩ = some (.bool sg) := bf.cell 2
      have c3 : W1.cell? ⟨gf, 3, none⟩ = some (.int .i64 0) := bf.cell 3
      go_wp2_with fail
      refine (HW.out _).mono ?_
      rintro e w1 ⟨rfl, b1⟩
      replace hb := hb.trans (b1.mono hb.size)
      clear c0 c1 c2 c3 bf b1
      go_wp2_with fail
      go_roundw
      case rel => exact ⟨j + 1, a + sz, by omega, by go_num, rfl, by rw [HS.out, ← HA.out], hb⟩
      case measure => simpa [intOf] using m1
    · obtain rfl : j = n := by omega
      have e : ts.take j = ts := List.take_of_length_le (by rw [HL.out]; exact Nat.le_refl _)
      rw [e] at ha
      subst ha
      clear e h
      go_wp2
      go_ret
      exact ⟨rfl, hb⟩
end Go.Proofs.YtldoocndhfgjhaaGreat
namespace Go.Proofs.YtldoocndhfgjhaaGreat
open Go.RowKit
set_option linter.unusedVariables false
set_option linter.unusedSimpArgs false

theorem field_form (name : ByteArray) (A : Option Addr) (n c : Nat) (w : World) : (Instr.field 154 (.agg #[.string name, .slice A n c]) 1).run Tryz.prog w = .ok (.slice A n c) w := by
  have hu := Tryz.underlying154
  have ha := Tryz.underlying152
  simp [Instr.field, asAgg, run_underlying hu, run_underlying ha, part, isAgg]
def parts0 : List (Int × Bool × ByteArray) := [(1, false, { data := #[116, 121, 112, 101] }), (1, false, { data := #[97, 117, 116, 111, 112, 105, 108, 111, 116] }), (1, false, { data := #[98, 97, 115, 101, 95, 109, 111, 100, 101] }), (4, false, { data := #[99, 117, 115, 116, 111, 109, 95, 109, 111, 100, 101] }), (1, false, { data := #[115, 121, 115, 116, 101, 109, 95, 115, 116, 97, 116, 117, 115] }), (1, false, { data := #[109, 97, 118, 108, 105, 110, 107, 95, 118, 101, 114, 115, 105, 111, 110] })]
theorem form_is0 : form0 = parts0.map partV := rfl
theorem good0 : ∀ t ∈ parts0, GoodT t := by
  unfold GoodT
  decide
set_option maxRecDepth 20000 in
theorem s_Parts0 (w : World) : Calls Tryz.prog 59 #[.int .i64 0] w fun e w' => ∃ A' c', e = .returned (.slice A' 6 c') ∧ OTab 4 w' w.heap.size 190 A' 6 c' (parts0.map partV) ∧ Below w.heap.size w w' := by
  go_enter Tryz.func59, Tryz.ntmps59
  go_wp2_with fail
  refine (s_find0 w).mono ?_
  intro e w1 hp
  obtain ⟨A', c', rfl, o1, b1⟩ := hp.to 6 rfl
  clear hp
  have H := hid o1
  have hf := field_form name0 A' 6 c'
  clear o1
  go_wp2
  go_ret
  exact ⟨A', c', rfl, H.out, b1⟩
set_option maxRecDepth 20000 in
theorem s_Width0 (w : World) : Calls Tryz.prog 37 #[.int .i64 0] w fun e w' => e = .returned (.int .i64 9) ∧ Below w.heap.size w w' := by
  go_enter Tryz.func37, Tryz.ntmps37
  go_wp2_with fail
  refine (s_Parts0 w).mono ?_
  rintro e w1 ⟨A', c', rfl, o1, b1⟩
  have H := hid (s_sum A' c' parts0 w1 o1.tab (show 6 ≤ 1000 by omega) good0)
  clear o1
  go_wp2_with fail
  refine H.out.mono ?_
  rintro e w2 ⟨rfl, b2⟩
  have hb := b1.trans (b2.mono b1.size)
  have HR : Hid (widthP parts0 = 9) := rfl
  rw [HR.out]
  go_wp2
  go_ret
  exact ⟨rfl, hb⟩
def parts200 : List (Int × Bool × ByteArray) := [(4, false, { data := #[116, 105, 109, 101, 95, 98, 111, 111, 116, 95, 109, 115] }), (4, false, { data := #[113, 117, 97, 116, 101, 114, 110, 105, 111, 110] }), (2, true, { data := #[120, 103, 121, 114, 111] }), (2, true, { data := #[121, 103, 121, 114, 111] }), (2, true, { data := #[122, 103, 121, 114, 111] })]
theorem form_is200 : form200 = parts200.map partV := rfl
theorem good200 : ∀ t ∈ parts200, GoodT t := by
  unfold GoodT
  decide
set_option maxRecDepth 20000 in
theorem s_Parts200 (w : World) : Calls Tryz.prog 59 #[.int .i64 200] w fun e w' => ∃ A' c', e = .returned (.slice A' 5 c') ∧ OTab 4 w' w.heap.size 190 A' 5 c' (parts200.map partV) ∧ Below w.heap.size w w' := by
  go_enter Tryz.func59, Tryz.ntmps59
  go_wp2_with fail
  refine (s_find200 w).mono ?_
  intro e w1 hp
  obtain ⟨A', c', rfl, o1, b1⟩ := hp.to 5 rfl
  clear hp
  have H := hid o1
  have hf := field_form name200 A' 5 c'
  clear o1
  go_wp2
  go_ret
  exact ⟨A', c', rfl, H.out, b1⟩
set_option maxRecDepth 20000 in
theorem s_Width200 (w : World) : Calls Tryz.prog 37 #[.int .i64 200] w fun e w' => e = .returned (.int .i64 14) ∧ Below w.heap.size w w' := by
  go_enter Tryz.func37, Tryz.ntmps37
  go_wp2_with fail
  refine (s_Parts200 w).mono ?_
  rintro e w1 ⟨A', c', rfl, o1, b1⟩
  have H := hid (s_sum A' c' parts200 w1 o1.tab (show 5 ≤ 1000 by omega) good200)
  clear o1
  go_wp2_with fail
  refine H.out.mono ?_
  rintro e w2 ⟨rfl, b2⟩
  have hb := b1.trans (b2.mono b1.size)
  have HR : Hid (widthP parts200 = 14) := rfl
  rw [HR.out]
  go_wp2
  go_ret
  exact ⟨rfl, hb⟩
end Go.Proofs.YtldoocndhfgjhaaGreat
