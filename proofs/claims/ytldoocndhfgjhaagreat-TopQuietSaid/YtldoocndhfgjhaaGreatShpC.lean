/- Chapter 14: shapes of the three kinds of fields. -/
import Derived.Test.YtldoocndhfgjhaaGreatShp
import Derived.Test.YtldoocndhfgjhaaGreatOctE
import Derived.Laws.EntriesVeiled
namespace Go.Proofs.YtldoocndhfgjhaaGreat
open Go.RowKit
set_option linter.unusedVariables false
set_option linter.unusedSimpArgs false

set_option maxHeartbeats 4000000 in
theorem sh_Right (A : Option Addr) (n cap : Nat) (fs : List (Int × Bool)) (w : World) (hnn : fs.length = n) (h : Tab 4 w w.heap.size A n (fs.map fieldV)) (hn : n ≤ 1000) (hk : ∀ t ∈ fs, FK t.1 t.2) :
    Calls Tryz.prog 73 #[.slice A n cap] w fun e w' => e = .returned (.bool true) ∧ Below w.heap.size w w' := by
  have HL := hid hnn
  clear hnn
  go_enter Tryz.func73, Tryz.ntmps73
  go_wp2
  go_loopw [7] (fun i wr => ∃ j : Nat, j ≤ n ∧ i = .int .i64 j ∧ Below w.heap.size w wr) (fun i _ => n - (intOf i).toNat)
  case atStart => exact ⟨0, Nat.zero_le _, rfl, Below.refl _ _⟩
  case round =>
    obtain ⟨j, hj, rfl, hb⟩ := hrel
    by_cases hlt : j < n
    · obtain ⟨⟨sz, sg⟩, hs⟩ : ∃ t, fs[j]? = some t := ⟨_, List.getElem?_eq_getElem (by rw [HL.out]; exact hlt)⟩
      obtain ⟨ad, rfl, _, hcell⟩ := (h.below hb).at_ (j := j) (p := fieldV (sz, sg)) (by rw [List.getElem?_map, hs]; rfl)
      have c0 := hcell 0 (.int .i64 sz) rfl
      have c1 := hcell 1 (.bool sg) rfl
      have c2 := hcell 2 (.int .i64 (loP sg)) rfl
      have c3 := hcell 3 (.int .i64 (hiP sz)) rfl
      rw [Nat.add_zero] at c0
      rw [add_up] at c1 c2 c3
      have hfk : FK sz sg := hk _ (List.mem_of_getElem? hs)
      have m1 : n - (j + 1) < n - j := by omega
      have j0 : (0 : Int) ≤ (j : Int) := by omega
      have j1 : (j : Int) < (n : Int) := by omega
      have hsz := hb.size
      have HR := hid fun w => sh_right sz sg w hfk
      have HH := hid h
      have HK := hid hk
      clear hcell hs h hk hfk
      go_upto_region 4 with fail
      clear c0 c1 c2 c3
      have bf := Blk.new wr 200 #[.int .i64 sz, .bool sg, .int .i64 (loP sg), .int .i64 (hiP sz)]
      replace hb := hb.alloc hsz (.cells #[.int .i64 sz, .bool sg, .int .i64 (loP sg), .int .i64 (hiP sz)] 200)
      generalize wr.alloc (.cells #[.int .i64 sz, .bool sg, .int .i64 (loP sg), .int .i64 (hiP sz)] 200) = W1 at *
      generalize wr.heap.size = gf at *
      have c0 : W1.cell? ⟨gf, 0, none⟩ = some (.int .i64 sz) := bf.cell 0
      have c1 : W1.cell? ⟨gf, 1, none⟩ = some (.bool sg) := bf.cell 1
      have c2 : W1.cell? ⟨gf, 2, none⟩ = some (.int .i64 (loP sg)) := bf.cell 2
      have c3 : W1.cell? ⟨gf, 3, none⟩ = some (.int .i64 (hiP sz)) := bf.cell 3
      go_wp2_with fail
      clear c0 c1 c2 c3 bf
      refine (HR.out _).mono ?_
      rintro e w1 ⟨rfl, b1⟩
      replace hb := hb.trans (b1.mono hb.size)
      clear b1
      go_wp2_with fail
      go_roundw
      case rel => exact ⟨j + 1, by omega, by go_num, hb⟩
      case measure => simpa [intOf] using m1
    · obtain rfl : j = n := by omega
      clear h
      go_wp2
      go_ret
      exact ⟨rfl, hb⟩
def sizeP (fs : List (Int × Bool)) : Int := fs.foldl (fun a t => a + t.1) 0
theorem size_snoc (fs : List (Int × Bool)) (j : Nat) (t : Int × Bool) (h : fs[j]? = some t) : sizeP (fs.take (j + 1)) = sizeP (fs.take j) + t.1 := by
  have hl := (List.getElem?_eq_some_iff.1 h).1
  have := (List.getElem?_eq_some_iff.1 h).2
  unfold sizeP
  rw [List.take_succ_eq_append_getElem hl, List.foldl_append]
  simp [this]
theorem size_bd (fs : List (Int × Bool)) (h : ∀ t ∈ fs, FK t.1 t.2) : ∀ j, j ≤ fs.length → 0 ≤ sizeP (fs.take j) ∧ sizeP (fs.take j) ≤ 8 * (j : Int) := by
  intro j
  induction j with
  | zero => intro _; simp [sizeP]
  | succ j ih =>
    intro hj
    obtain ⟨t, ht⟩ : ∃ t, fs[j]? = some t := ⟨_, List.getElem?_eq_getElem (by omega)⟩
    have h1 := ih (by omega)
    have h2 := fk_bd _ _ (h t (List.mem_of_getElem? ht))
    rw [size_snoc fs j t ht]
    omega
set_option maxHeartbeats 4000000 in
theorem sh_Width (A : Option Addr) (n cap : Nat) (fs : List (Int × Bool)) (w : World) (hnn : fs.length = n) (h : Tab 4 w w.heap.size A n (fs.map fieldV)) (hn : n ≤ 1000) (hk : ∀ t ∈ fs, FK t.1 t.2) :
    Calls Tryz.prog 72 #[.slice A n cap] w fun e w' => e = .returned (.int .i64 (sizeP fs)) ∧ Below w.heap.size w w' := by
  have HR := hid (sh_Right A n cap fs w hnn h hn hk)
  have HL := hid hnn
  clear hnn
  go_enter Tryz.func72, Tryz.ntmps72
  go_wp2_with fail
  refine HR.out.mono ?_
  rintro e w0 ⟨rfl, hb⟩
  clear HR
  go_wp2
  go_loopw [3, 11] (fun p i wr => ∃ (j : Nat) (a : Int), j ≤ n ∧ i = .int .i64 j ∧ p = .int .i64 a ∧ a = sizeP (fs.take j) ∧ Below w.heap.size w wr) (fun _ i _ => n - (intOf i).toNat)
  case atStart => exact ⟨0, 0, Nat.zero_le _, rfl, rfl, rfl, hb⟩
  case round =>
    clear hb
    obtain ⟨j, a, hj, rfl, rfl, ha, hb⟩ := hrel
    by_cases hlt : j < n
    · obtain ⟨⟨sz, sg⟩, hs⟩ : ∃ t, fs[j]? = some t := ⟨_, List.getElem?_eq_getElem (by rw [HL.out]; exact hlt)⟩
      obtain ⟨ad, rfl, _, hcell⟩ := (h.below hb).at_ (j := j) (p := fieldV (sz, sg)) (by rw [List.getElem?_map, hs]; rfl)
      have c0 := hcell 0 (.int .i64 sz) rfl
      have c1 := hcell 1 (.bool sg) rfl
      have c2 := hcell 2 (.int .i64 (loP sg)) rfl
      have c3 := hcell 3 (.int .i64 (hiP sz)) rfl
      rw [Nat.add_zero] at c0
      rw [add_up] at c1 c2 c3
      have hfk : FK sz sg := hk _ (List.mem_of_getElem? hs)
      have m1 : n - (j + 1) < n - j := by omega
      have j0 : (0 : Int) ≤ (j : Int) := by omega
      have j1 : (j : Int) < (n : Int) := by omega
      have hsz := hb.size
      have hbd := size_bd fs hk j (by rw [HL.out]; exact hj)
      have hbq := fk_bd _ _ hfk
      rw [← ha] at hbd
      have HS := hid (size_snoc fs j _ hs)
      have HA := hid ha
      have ua : IntKind.i64.wrap (a + sz) = a + sz := IntWalk.i64_in _ (by omega)
      have HH := hid h
      have HK := hid hk
      clear hcell hs h hk hfk ha hbd hbq
      go_upto_region 7 with fail
      clear c0 c1 c2 c3
      have bf := Blk.new wr 200 #[.int .i64 sz, .bool sg, .int .i64 (loP sg), .int .i64 (hiP sz)]
      replace hb := hb.alloc hsz (.cells #[.int .i64 sz, .bool sg, .int .i64 (loP sg), .int .i64 (hiP sz)] 200)
      generalize wr.alloc (.cells #[.int .i64 sz, .bool sg, .int .i64 (loP sg), .int .i64 (hiP sz)] 200) = W1 at *
      generalize wr.heap.size = gf at *
      have c0 : W1.cell? ⟨gf, 0, none⟩ = some (.int .i64 sz) := bf.cell 0
      go_wp2_with fail
      clear c0 bf
      go_roundw
      case rel => exact ⟨j + 1, a + sz, by omega, by go_num, rfl, by rw [HS.out, ← HA.out], hb⟩
      case measure => simpa [intOf] using m1
    · obtain rfl : j = n := by omega
      have e : fs.take j = fs := List.take_of_length_le (by rw [HL.out]; exact Nat.le_refl _)
      rw [e] at ha
      subst ha
      clear e h
      go_wp2
      go_ret
      exact ⟨rfl, hb⟩
theorem sh_plain (w : World) : Calls Tryz.prog 114 #[] w fun e w' => e = .returned (.agg #[.func (.func 149) #[] #[], .func (.func 150) #[] #[]]) ∧ Below w.heap.size w w' := by
  have e0 := Blk.new w 209 #[.nilFunc, .nilFunc]
  have hb := (Below.refl w.heap.size w).alloc (Nat.le_refl _) (.cells #[.nilFunc, .nilFunc] 209)
  go_enter Tryz.func114, Tryz.ntmps114
  go_upto_region 1 with fail
  generalize w.alloc (.cells #[.nilFunc, .nilFunc] 209) = W0 at *
  have q0 : W0.cell? ⟨w.heap.size, 0, none⟩ = some .nilFunc := e0.cell 0
  have q1 : W0.cell? ⟨w.heap.size, 1, none⟩ = some .nilFunc := e0.cell 1
  have z0 := e0.frozen 0
  have z1 := e0.frozen 1
  have t0 := (e0.set_ 0 (.func (.func 149) #[] #[])).set_ 1 (.func (.func 150) #[] #[])
  simp only [List.setIfInBounds_toArray, List.set_cons_zero, List.set_cons_succ] at t0
  have tb := (hb.setCell (p := ⟨w.heap.size, 0, none⟩) (by dsimp only; omega) (.func (.func 149) #[] #[])).setCell (p := ⟨w.heap.size, 1, none⟩) (by dsimp only; omega) (.func (.func 150) #[] #[])
  go_wp2
  refine bodyPost_ret (results_cell_row rfl _ _ w.heap.size _ _ _ _ rfl t0 Tryz.underlying209 rfl (by kernel_rfl)) rfl ?_
  exact ⟨rfl, tb⟩
theorem sh_of_true (sz lo hi : Int) (w : World) : Calls Tryz.prog 75 #[.agg #[.int .i64 sz, .bool true, .int .i64 lo, .int .i64 hi]] w fun e w' => e = .returned (.agg #[.func (.func 112) #[] #[], .func (.func 113) #[] #[]]) ∧ Below w.heap.size w w' := by
  have ef := (Blk.new w 200 #[.int .i64 sz, .bool true, .int .i64 lo, .int .i64 hi]).alloc (.cells #[.nilFunc, .nilFunc] 209)
  have e0 := Blk.new (w.alloc (.cells #[.int .i64 sz, .bool true, .int .i64 lo, .int .i64 hi] 200)) 209 #[.nilFunc, .nilFunc]
  simp only [World.size_alloc] at e0
  have hb := ((Below.refl w.heap.size w).alloc (Nat.le_refl _) (.cells #[.int .i64 sz, .bool true, .int .i64 lo, .int .i64 hi] 200)).alloc (by simp) (.cells #[.nilFunc, .nilFunc] 209)
  go_enter Tryz.func75, Tryz.ntmps75
  go_upto_region 1 with fail
  generalize (w.alloc (.cells #[.int .i64 sz, .bool true, .int .i64 lo, .int .i64 hi] 200)).alloc (.cells #[.nilFunc, .nilFunc] 209) = W0 at *
  have f1 : W0.cell? ⟨w.heap.size, 1, none⟩ = some (.bool true) := ef.cell 1
  have q0 : W0.cell? ⟨w.heap.size + 1, 0, none⟩ = some .nilFunc := e0.cell 0
  have q1 : W0.cell? ⟨w.heap.size + 1, 1, none⟩ = some .nilFunc := e0.cell 1
  have z0 := e0.frozen 0
  have z1 := e0.frozen 1
  have t0 := (e0.set_ 0 (.func (.func 112) #[] #[])).set_ 1 (.func (.func 113) #[] #[])
  simp only [List.setIfInBounds_toArray, List.set_cons_zero, List.set_cons_succ] at t0
  have tb := (hb.setCell (p := ⟨w.heap.size + 1, 0, none⟩) (by dsimp only; omega) (.func (.func 112) #[] #[])).setCell (p := ⟨w.heap.size + 1, 1, none⟩) (by dsimp only; omega) (.func (.func 113) #[] #[])
  go_wp2
  refine bodyPost_ret (results_cell_row rfl _ _ (w.heap.size + 1) _ _ _ _ rfl t0 Tryz.underlying209 rfl (by kernel_rfl)) rfl ?_
  exact ⟨rfl, tb⟩
theorem sh_of_false (sz lo hi : Int) (w : World) : Calls Tryz.prog 75 #[.agg #[.int .i64 sz, .bool false, .int .i64 lo, .int .i64 hi]] w fun e w' => e = .returned (.agg #[.func (.func 149) #[] #[], .func (.func 150) #[] #[]]) ∧ Below w.heap.size w w' := by
  have ef := (Blk.new w 200 #[.int .i64 sz, .bool false, .int .i64 lo, .int .i64 hi]).alloc (.cells #[.nilFunc, .nilFunc] 209)
  have e0 := Blk.new (w.alloc (.cells #[.int .i64 sz, .bool false, .int .i64 lo, .int .i64 hi] 200)) 209 #[.nilFunc, .nilFunc]
  simp only [World.size_alloc] at e0
  have hb := ((Below.refl w.heap.size w).alloc (Nat.le_refl _) (.cells #[.int .i64 sz, .bool false, .int .i64 lo, .int .i64 hi] 200)).alloc (by simp) (.cells #[.nilFunc, .nilFunc] 209)
  go_enter Tryz.func75, Tryz.ntmps75
  go_upto_region 1 with fail
  generalize (w.alloc (.cells #[.int .i64 sz, .bool false, .int .i64 lo, .int .i64 hi] 200)).alloc (.cells #[.nilFunc, .nilFunc] 209) = W0 at *
  have f1 : W0.cell? ⟨w.heap.size, 1, none⟩ = some (.bool false) := ef.cell 1
  go_wp2_with fail
  refine (sh_plain _).mono ?_
  rintro e W1 ⟨rfl, b1⟩
  replace e0 := e0.below b1 e0.lt
  replace hb := hb.trans (b1.mono hb.size)
  clear b1 f1 ef
  have q0 : W1.cell? ⟨w.heap.size + 1, 0, none⟩ = some .nilFunc := e0.cell 0
  have q1 : W1.cell? ⟨w.heap.size + 1, 1, none⟩ = some .nilFunc := e0.cell 1
  have z0 := e0.frozen 0
  have z1 := e0.frozen 1
  have t0 := (e0.set_ 0 (.func (.func 149) #[] #[])).set_ 1 (.func (.func 150) #[] #[])
  simp only [List.setIfInBounds_toArray, List.set_cons_zero, List.set_cons_succ] at t0
  have tb := (hb.setCell (p := ⟨w.heap.size + 1, 0, none⟩) (by dsimp only; omega) (.func (.func 149) #[] #[])).setCell (p := ⟨w.heap.size + 1, 1, none⟩) (by dsimp only; omega) (.func (.func 150) #[] #[])
  go_wp2
  refine bodyPost_ret (results_cell_row rfl _ _ (w.heap.size + 1) _ _ _ _ rfl t0 Tryz.underlying209 rfl (by kernel_rfl)) rfl ?_
  exact ⟨rfl, tb⟩
end Go.Proofs.YtldoocndhfgjhaaGreat
namespace Go.Proofs.YtldoocndhfgjhaaGreat
open Go.RowKit
set_option linter.unusedVariables false
set_option linter.unusedSimpArgs false

/-- A number for a field. -/
def VK (sz : Int) (sg : Bool) (x : Int) : Prop := (sz = 1 ∧ sg = false ∧ 0 ≤ x ∧ x < 256) ∨ (sz = 4 ∧ sg = false ∧ 0 ≤ x ∧ x < 4294967296) ∨ (sz = 2 ∧ sg = true ∧ x = 0)
theorem vk_fk {sz x : Int} {sg : Bool} (h : VK sz sg x) : FK sz sg := by
  rcases h with ⟨h1, h2, _⟩ | ⟨h1, h2, _⟩ | ⟨h1, h2, _⟩
  · exact .inl ⟨h1, h2⟩
  · exact .inr (.inl ⟨h1, h2⟩)
  · exact .inr (.inr ⟨h1, h2⟩)
theorem vk_in {sz x : Int} {sg : Bool} (h : VK sz sg x) : loP sg ≤ x ∧ x ≤ hiP sz ∧ 0 ≤ x ∧ x < 4294967296 := by
  rcases h with ⟨rfl, rfl, h⟩ | ⟨rfl, rfl, h⟩ | ⟨rfl, rfl, rfl⟩
  · simp [loP, hiP]; omega
  · simp [loP, hiP]; omega
  · decide
theorem sh_w1 (x : Int) (g base m c : Nat) (A : Option Addr) (ys : List Int) (w : World) (hu : 0 ≤ x ∧ x < 256) (hb : Wr w g (.slice A m c)) (ho : Own .u8 w base 5 A m c ys) (hg : base ≤ g) (hm : m ≤ 1000000) (hbs : base ≤ w.heap.size) :
    Calls Tryz.prog 149 #[.pointer (some ⟨g, 0, none⟩), .int .i64 1, .int .i64 x] w (Wrote 1 x g base m ys w) := by
  have H := hid (o_U1 x g base m c A ys w hu hb ho hg hm hbs)
  have HW : Hid (∀ w', (∃ A' c', Wr w' g (.slice A' (m + 1) c') ∧ Own .u8 w' base 5 A' (m + 1) c' (ys ++ leP 1 x) ∧ Below base w w' ∧ KeepsT g w w') → Wrote 1 x g base m ys w (.returned (.tuple #[])) w') := hid fun _ h => ⟨rfl, h⟩
  have e1 : IntKind.u64.wrap x = x := by rw [IntKind.wrap_u64]; omega
  clear hb ho
  go_enter Tryz.func149, Tryz.ntmps149
  go_wp2_with fail
  refine H.out.mono ?_
  rintro e w1 ⟨rfl, h1⟩
  have h2 := hid h1
  clear h1
  go_wp2
  go_end0
  exact HW.out _ h2.out
theorem sh_w4 (x : Int) (g base m c : Nat) (A : Option Addr) (ys : List Int) (w : World) (hu : 0 ≤ x ∧ x < 4294967296) (hb : Wr w g (.slice A m c)) (ho : Own .u8 w base 5 A m c ys) (hg : base ≤ g) (hm : m ≤ 1000000) (hbs : base ≤ w.heap.size) :
    Calls Tryz.prog 149 #[.pointer (some ⟨g, 0, none⟩), .int .i64 4, .int .i64 x] w (Wrote 4 x g base m ys w) := by
  have H := hid (o_U4 x g base m c A ys w hu hb ho hg hm hbs)
  have HW : Hid (∀ w', (∃ A' c', Wr w' g (.slice A' (m + 4) c') ∧ Own .u8 w' base 5 A' (m + 4) c' (ys ++ leP 4 x) ∧ Below base w w' ∧ KeepsT g w w') → Wrote 4 x g base m ys w (.returned (.tuple #[])) w') := hid fun _ h => ⟨rfl, h⟩
  have e1 : IntKind.u64.wrap x = x := by rw [IntKind.wrap_u64]; omega
  clear hb ho
  go_enter Tryz.func149, Tryz.ntmps149
  go_wp2_with fail
  refine H.out.mono ?_
  rintro e w1 ⟨rfl, h1⟩
  have h2 := hid h1
  clear h1
  go_wp2
  go_end0
  exact HW.out _ h2.out
theorem sh_r1 (g m c : Nat) (x0 : Int) (xs : List Int) (A : Option Addr) (w : World) (h : Rd w g (.slice A m c)) (hr : Row .u8 w g A m (x0 :: xs)) (hc : m ≤ c) (hm : m ≤ 100000) (hx : U8 x0) :
    Calls Tryz.prog 150 #[.pointer (some ⟨g, 0, none⟩), .int .i64 1] w fun e w' => e = .returned (.int .i64 (x0)) ∧ w' = w.setCell ⟨g, 0, none⟩ (.slice (cutA A c 1) (m - 1) (c - 1)) := by
  have H := hid (o_RU1 g m c x0 xs A w h hr hc hm hx)
  obtain ⟨v, hv⟩ : ∃ v, x0 = v := ⟨_, rfl⟩
  have e1 : IntKind.i64.wrap v = v := IntWalk.i64_in _ (by unfold U8 at hx; omega)
  rw [hv] at H ⊢
  clear h hr hv hx
  go_enter Tryz.func150, Tryz.ntmps150
  go_wp2_with fail
  refine H.out.mono ?_
  rintro e w1 ⟨rfl, rfl⟩
  go_wp2
  go_ret
  exact ⟨rfl, rfl⟩
theorem sh_r4 (g m c : Nat) (x0 x1 x2 x3 : Int) (xs : List Int) (A : Option Addr) (w : World) (h : Rd w g (.slice A m c)) (hr : Row .u8 w g A m (x0 :: x1 :: x2 :: x3 :: xs)) (hc : m ≤ c) (hm : m ≤ 100000) (hx : U8 x0 ∧ U8 x1 ∧ U8 x2 ∧ U8 x3) :
    Calls Tryz.prog 150 #[.pointer (some ⟨g, 0, none⟩), .int .i64 4] w fun e w' => e = .returned (.int .i64 (x0 + 256 * x1 + 65536 * x2 + 16777216 * x3)) ∧ w' = w.setCell ⟨g, 0, none⟩ (.slice (cutA A c 4) (m - 4) (c - 4)) := by
  have H := hid (o_RU4 g m c x0 x1 x2 x3 xs A w h hr hc hm hx)
  obtain ⟨v, hv⟩ : ∃ v, x0 + 256 * x1 + 65536 * x2 + 16777216 * x3 = v := ⟨_, rfl⟩
  have e1 : IntKind.i64.wrap v = v := IntWalk.i64_in _ (by unfold U8 at hx; omega)
  rw [hv] at H ⊢
  clear h hr hv hx
  go_enter Tryz.func150, Tryz.ntmps150
  go_wp2_with fail
  refine H.out.mono ?_
  rintro e w1 ⟨rfl, rfl⟩
  go_wp2
  go_ret
  exact ⟨rfl, rfl⟩
end Go.Proofs.YtldoocndhfgjhaaGreat
