/- Chapter 31: the slots and the fields of a form. -/
import Derived.Test.YtldoocndhfgjhaaGreatSchF
import Derived.Test.YtldoocndhfgjhaaGreatStabB
import Derived.Test.YtldoocndhfgjhaaGreatShp
namespace Go.Proofs.YtldoocndhfgjhaaGreat
open Go.RowKit
set_option linter.unusedVariables false
set_option linter.unusedSimpArgs false

theorem sink_all {α : Type} (f : α → Int) (p : α → Prop) : ∀ (k : Nat) (l : List α), (∀ t ∈ l, p t) → ∀ t ∈ sink f k l, p t := by
  intro k
  induction k with
  | zero => intro l h; exact h
  | succ k ih =>
    intro l h
    rw [sink.eq_2]
    split
    · next x y hx hy =>
      split
      · refine ih _ (fun t ht => ?_)
        rcases List.mem_or_eq_of_mem_set ht with h1 | rfl
        · rcases List.mem_or_eq_of_mem_set h1 with h2 | rfl
          · exact h t h2
          · exact h _ (List.mem_of_getElem? hx)
        · exact h _ (List.mem_of_getElem? hy)
      · exact h
    · exact h
theorem stab_all {α : Type} (f : α → Int) (p : α → Prop) (l : List α) (h : ∀ t ∈ l, p t) (i : Nat) : ∀ t ∈ stab f l i, p t := by
  induction i with
  | zero => exact h
  | succ i ih => exact sink_all f p i _ ih
/-- The slots of the first parts. -/
def slotsOf (ts : List (Int × Bool × ByteArray)) (j : Nat) : List (Int × Bool × Int) := (ts.take j).mapIdx fun i t => (t.1, t.2.1, (i : Int))
theorem slots_len (ts : List (Int × Bool × ByteArray)) (j : Nat) (h : j ≤ ts.length) : (slotsOf ts j).length = j := by simp [slotsOf]; omega
theorem slots_snoc (ts : List (Int × Bool × ByteArray)) (j : Nat) (t : Int × Bool × ByteArray) (h : ts[j]? = some t) : slotsOf ts (j + 1) = slotsOf ts j ++ [(t.1, t.2.1, (j : Int))] := by
  have hl := (List.getElem?_eq_some_iff.1 h).1
  have := (List.getElem?_eq_some_iff.1 h).2
  unfold slotsOf
  rw [List.take_succ_eq_append_getElem hl, List.mapIdx_concat, this]
  simp
  omega
theorem slots_all (ts : List (Int × Bool × ByteArray)) (h : ∀ t ∈ ts, FK t.1 t.2.1) (j : Nat) : ∀ t ∈ slotsOf ts j, FK t.1 t.2.1 := by
  intro t ht
  unfold slotsOf at ht
  obtain ⟨i, hi, rfl⟩ := List.mem_mapIdx.1 ht
  exact h _ (List.mem_of_mem_take (List.getElem_mem hi))
def fieldOf (t : Int × Bool × Int) : List Value := fieldV (t.1, t.2.1)
theorem even_fieldOf (ts : List (Int × Bool × Int)) : Even 4 (ts.map fieldOf) := by
  intro p hp
  obtain ⟨t, _, rfl⟩ := List.mem_map.1 hp
  exact even_field [(t.1, t.2.1)] _ (by simp [fieldOf])
theorem infoField : (Tryz.prog.info? 200).map (fun i => (i.zero, i.size, i.bytes)) = some (some (.agg #[.int .i64 0, .bool false, .int .i64 0, .int .i64 0]), 4, 32) := by kernel_rfl
/-- Slices of different types share no block. -/
theorem OTab.apart {sz sz' : Nat} {w : World} {base base' : Nat} {e e' : TypeId} {A A' : Option Addr} {n c n' c' : Nat} {ps ps' : List (List Value)} (h : OTab sz w base e A n c ps) (h' : OTab sz' w base' e' A' n' c' ps') (hne : e ≠ e') : (Value.slice A n c).ownBlock = none ∨ (Value.slice A n c).ownBlock ≠ (Value.slice A' n' c').ownBlock := by
  rcases h.1.2 with ⟨hv, _⟩ | ⟨g, cap, cur, hv, _, hh, _⟩
  · left; rw [hv]; rfl
  · right
    rw [hv]
    rcases h'.1.2 with ⟨hv', _⟩ | ⟨g', cap', cur', hv', _, hh', _⟩
    · rw [hv']; intro he; cases he
    · rw [hv']
      intro he
      have hg : g = g' := by simpa [Value.ownBlock] using he
      subst hg
      rw [hh] at hh'
      injection hh' with h1
      injection h1 with _ h2
      exact hne h2
theorem add0 (g i : Nat) : (⟨g, 0, none⟩ : Addr).add i = ⟨g, i, none⟩ := by unfold Addr.add; split <;> simp_all
/-- What 'slots' gives. -/
def SlotsOut (ts : List (Int × Bool × ByteArray)) (n : Nat) (w : World) (e : Ending) (w' : World) : Prop :=
  ∃ g X c, e = .returned (.tuple #[.slice (some ⟨g, 0, none⟩) n n, .slice X n c]) ∧ OTab 3 w' w.heap.size 162 (some ⟨g, 0, none⟩) n n ((stab (fun t => t.1) (slotsOf ts n) n).map slotV) ∧ OTab 4 w' w.heap.size 200 X n c ((stab (fun t => t.1) (slotsOf ts n) n).map fieldOf) ∧ Below w.heap.size w w'
set_option maxRecDepth 20000 in
set_option maxHeartbeats 8000000 in
theorem s_slots (name : ByteArray) (A : Option Addr) (n cap : Nat) (ts : List (Int × Bool × ByteArray)) (w : World) (hnn : ts.length = n) (h : Tab 4 w w.heap.size A n (ts.map partV)) (hn : n ≤ 100) (hn0 : 0 < n) (hk : ∀ t ∈ ts, FK t.1 t.2.1) :
    Calls Tryz.prog 42 #[.agg #[.string name, .slice A n cap]] w (SlotsOut ts n w) := by
  obtain ⟨i0, hi, hz, hz1, hz2⟩ := info_parts3 sl_info
  obtain ⟨i4, hi4, hz4, hz41, hz42⟩ := info_parts3 infoField
  have HO : Hid (∀ g X c w', OTab 3 w' w.heap.size 162 (some ⟨g, 0, none⟩) n n ((stab (fun t => t.1) (slotsOf ts n) n).map slotV) → OTab 4 w' w.heap.size 200 X n c ((stab (fun t => t.1) (slotsOf ts n) n).map fieldOf) → Below w.heap.size w w' → SlotsOut ts n w (.returned (.tuple #[.slice (some ⟨g, 0, none⟩) n n, .slice X n c])) w') := hid fun g X c w' h1 h2 h3 => ⟨g, X, c, rfl, h1, h2, h3⟩
  have HL := hid hnn
  have HKK := hid hk
  clear hnn hk
  have e1 := Blk.new w 154 #[.string name, .slice A n cap]
  have hb := (Below.refl w.heap.size w).alloc (Nat.le_refl _) (.cells #[.string name, .slice A n cap] 154)
  go_enter Tryz.func42, Tryz.ntmps42
  go_upto_region 2 with fail
  generalize w.alloc (.cells #[.string name, .slice A n cap] 154) = W0 at *
  have q1 : W0.cell? ⟨w.heap.size, 1, none⟩ = some (.slice A n cap) := e1.cell 1
  go_wp2_with fail
  clear q1 e1
  go_loopw [4, 13] (fun p i wr => ∃ (j : Nat) (X : Option Addr) (d : Nat), j ≤ n ∧ i = .int .i64 j ∧ p = .slice X j d ∧ OTab 3 wr w.heap.size 162 X j d ((slotsOf ts j).map slotV) ∧ Below w.heap.size w wr) (fun _ i _ => n - (intOf i).toNat)
  case atStart => exact ⟨0, none, 0, Nat.zero_le _, rfl, rfl, OTab.nil_ _ _ _ _, hb⟩
  case round =>
    clear hb
    obtain ⟨j, X, d, hj, rfl, rfl, ho, hb⟩ := hrel
    by_cases hlt : j < n
    · obtain ⟨⟨sz, sg, s⟩, hs⟩ : ∃ t, ts[j]? = some t := ⟨_, List.getElem?_eq_getElem (by rw [HL.out]; exact hlt)⟩
      obtain ⟨ad, rfl, _, hcell⟩ := (h.below hb).at_ (j := j) (p := partL sz sg s) (by rw [List.getElem?_map, hs]; rfl)
      have c0 := hcell 0 (.string s) rfl
      have c1 := hcell 1 (.int .i64 sz) rfl
      have c2 := hcell 2 (.bool sg) rfl
      have c3 := hcell 3 (.int .i64 0) rfl
      rw [Nat.add_zero] at c0
      rw [add_up] at c1 c2 c3
      have HS := hid (slots_snoc ts j _ hs)
      have HN := hid fun w => s_numbers s sz sg w
      have m1 : n - (j + 1) < n - j := by omega
      have j0 : (0 : Int) ≤ (j : Int) := by omega
      have j1 : (j : Int) < (n : Int) := by omega
      have hsz := hb.size
      have HH := hid h
      clear hcell hs h
      go_upto_region 5 with fail
      clear c0 c1 c2 c3
      have bf := Blk.new wr 190 #[.string s, .int .i64 sz, .bool sg, .int .i64 0]
      replace hb := hb.alloc hsz (.cells #[.string s, .int .i64 sz, .bool sg, .int .i64 0] 190)
      replace ho := ho.alloc (.cells #[.string s, .int .i64 sz, .bool sg, .int .i64 0] 190)
      generalize wr.alloc (.cells #[.string s, .int .i64 sz, .bool sg, .int .i64 0] 190) = W1 at *
      generalize wr.heap.size = gf at *
      have c0 : W1.cell? ⟨gf, 0, none⟩ = some (.string s) := bf.cell 0
      have c1 : W1.cell? ⟨gf, 1, none⟩ = some (.int .i64 sz) := bf.cell 1
      have c2 : W1.cell? ⟨gf, 2, none⟩ = some (.bool sg) := bf.cell 2
      have c3 : W1.cell? ⟨gf, 3, none⟩ = some (.int .i64 0) := bf.cell 3
      go_wp2_with fail
      clear c0 c1 c2 c3
      refine (HN.out _).mono ?_
      rintro e w1 ⟨rfl, b1⟩
      replace hb := hb.trans (b1.mono hb.size)
      replace bf := bf.below b1 bf.lt
      replace ho := ho.below b1 (Nat.le_refl _)
      clear b1
      have c1 : w1.cell? ⟨gf, 1, none⟩ = some (.int .i64 sz) := bf.cell 1
      have c2 : w1.cell? ⟨gf, 2, none⟩ = some (.bool sg) := bf.cell 2
      have hsw := hb.size
      go_wp2_with fail
      refine wp_loop_rounds 2 ?_
      rw [rounds_succ]
      go_wp2_with (first
        | (at_builtin; refine wpList_appW rfl (.tmp 21) (.tmp 29) _ rfl w.heap.size 162 i0 _ 3 24 Tryz.underlying156 hi hz hz1 hz2 rfl (by omega) X j d _ rfl (ho.alloc _) (w1.heap.size + 1) (some ⟨w1.heap.size, 0, none⟩) 1 1 [slotV (sz, sg, (j : Int))] rfl (Tab.blk (Blk.new _ _ _) rfl (even_sl [(sz, sg, (j : Int))]) rfl (by omega)) (by unfold maxLen; omega) (by omega) (by simp; omega) ?_; intro X2 d2 w2 ho2 hg2; have hb2 := otab_below (hb.alloc hsw _) (ho.alloc _) hg2 (by simp; omega)))
      clear c1 c2 bf
      rw [rounds_succ]
      go_wp2_with fail
      go_roundw
      case rel => exact ⟨j + 1, X2, d2, by omega, by go_num, rfl, by rw [HS.out, List.map_append]; exact ho2, hb2⟩
      case measure => simpa [intOf] using m1
    · obtain rfl : j = n := by omega
      obtain ⟨g0, rfl, _⟩ : ∃ g, X = some ⟨g, 0, none⟩ ∧ True := by
        rcases ho.form with ⟨_, h0, _⟩ | ⟨g, h1, _⟩
        · omega
        · exact ⟨g, h1, trivial⟩
      have hst := sl_stable ⟨g0, 0, none⟩ d (slotsOf ts j) wr
      rw [slots_len ts j (by rw [HL.out]; exact Nat.le_refl _)] at hst
      have HST := hid (hst ho.tab (by omega))
      have hsw := hb.size
      clear hst ho h
      go_wp2_with fail
      refine HST.out.mono ?_
      rintro e w1 ⟨g, rfl, o1, b1⟩
      replace hb := hb.trans (b1.mono hb.size)
      replace o1 := o1.lower hsw
      clear b1 HST hsw
      have HLS : Hid ((stab (fun t : Int × Bool × Int => t.1) (slotsOf ts j) j).length = j) := hid (by rw [stab_len, slots_len ts j (by rw [HL.out]; exact Nat.le_refl _)])
      have HFK := hid (stab_all (fun t : Int × Bool × Int => t.1) (fun t => FK t.1 t.2.1) _ (slots_all ts HKK.out j) j)
      generalize stab (fun t : Int × Bool × Int => t.1) (slotsOf ts j) j = ss at *
      go_wp2_with fail
      go_loopw [7, 37] (fun p i wr => ∃ (q : Nat) (X : Option Addr) (d : Nat), q ≤ j ∧ i = .int .i64 q ∧ p = .slice X q d ∧ OTab 4 wr w.heap.size 200 X q d ((ss.take q).map fieldOf) ∧ OTab 3 wr w.heap.size 162 (some ⟨g, 0, none⟩) j j (ss.map slotV) ∧ Below w.heap.size w wr) (fun _ i _ => j - (intOf i).toNat)
      case atStart => exact ⟨0, none, 0, Nat.zero_le _, rfl, rfl, OTab.nil_ _ _ _ _, o1, hb⟩
      case round =>
        clear hb o1
        obtain ⟨q, X, d, hq, rfl, rfl, ho, o1, hb⟩ := hrel
        by_cases hlt : q < j
        · obtain ⟨⟨sz, sg, t⟩, hs⟩ : ∃ t, ss[q]? = some t := ⟨_, List.getElem?_eq_getElem (by rw [HLS.out]; exact hlt)⟩
          obtain ⟨ad, had, _, hcell⟩ := o1.tab.at_ (j := q) (p := slotV (sz, sg, t)) (by rw [List.getElem?_map, hs]; rfl)
          cases had
          have c0 := hcell 0 (.int .i64 sz) rfl
          have c1 := hcell 1 (.bool sg) rfl
          have c2 := hcell 2 (.int .i64 t) rfl
          rw [add0] at c0 c1 c2
          rw [Nat.add_zero] at c0
          have hfk : FK sz sg := HFK.out _ (List.mem_of_getElem? hs)
          have HA := hid fun w => sh_Any sz sg w hfk
          have HS := hid (map_take_snoc fieldOf ss q _ hs)
          have m1 : j - (q + 1) < j - q := by omega
          have j0 : (0 : Int) ≤ (q : Int) := by omega
          have j1 : (q : Int) < (j : Int) := by omega
          have hsz := hb.size
          clear hcell hs hfk
          go_upto_region 15 with fail
          clear c0 c1 c2
          have bf := Blk.new wr 162 #[.int .i64 sz, .bool sg, .int .i64 t]
          replace hb := hb.alloc hsz (.cells #[.int .i64 sz, .bool sg, .int .i64 t] 162)
          replace ho := ho.alloc (.cells #[.int .i64 sz, .bool sg, .int .i64 t] 162)
          replace o1 := o1.alloc (.cells #[.int .i64 sz, .bool sg, .int .i64 t] 162)
          generalize wr.alloc (.cells #[.int .i64 sz, .bool sg, .int .i64 t] 162) = W1 at *
          generalize wr.heap.size = gf at *
          have c0 : W1.cell? ⟨gf, 0, none⟩ = some (.int .i64 sz) := bf.cell 0
          have c1 : W1.cell? ⟨gf, 1, none⟩ = some (.bool sg) := bf.cell 1
          go_wp2_with fail
          clear c0 c1 bf
          refine (HA.out _).mono ?_
          rintro e w2 ⟨rfl, b1⟩
          replace hb := hb.trans (b1.mono hb.size)
          replace ho := ho.below b1 (Nat.le_refl _)
          replace o1 := o1.below b1 (Nat.le_refl _)
          clear b1
          have hsw := hb.size
          have hap := o1.apart ho (by decide)
          go_wp2_with (first
            | (at_builtin; refine wpList_appW rfl (.tmp 41) (.tmp 47) _ rfl w.heap.size 200 i4 _ 4 32 Tryz.underlying157 hi4 hz4 hz41 hz42 rfl (by omega) X q d _ rfl (ho.alloc _) (w2.heap.size + 1) (some ⟨w2.heap.size, 0, none⟩) 1 1 [fieldOf (sz, sg, t)] rfl (Tab.blk (Blk.new _ _ _) rfl (even_fieldOf [(sz, sg, t)]) rfl (by omega)) (by unfold maxLen; omega) (by omega) (by simp; omega) ?_; intro X2 d2 w3 ho2 hg2; have hb2 := otab_below (hb.alloc hsw _) (ho.alloc _) hg2 (by simp; omega); have o2 := (o1.alloc _).kept hg2 hap))
          go_roundw
          case rel => exact ⟨q + 1, X2, d2, by omega, by go_num, rfl, by rw [HS.out]; exact ho2, o2, hb2⟩
          case measure => simpa [intOf] using m1
        · obtain rfl : q = j := by omega
          have e : ss.take q = ss := List.take_of_length_le (by rw [HLS.out]; exact Nat.le_refl _)
          rw [e] at ho
          have H1 := hid ho
          have H2 := hid o1
          clear ho o1 e
          go_wp2
          go_ret2
          exact HO.out _ _ _ _ H2.out H1.out hb
end Go.Proofs.YtldoocndhfgjhaaGreat
