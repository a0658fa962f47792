/- Chapter 08: the word of parts. -/
import Derived.Test.YtldoocndhfgjhaaGreatBitsI
namespace Go.Proofs.YtldoocndhfgjhaaGreat
open Go.RowKit
set_option linter.unusedVariables false
set_option linter.unusedSimpArgs false

set_option maxHeartbeats 8000000 in
theorem c_Join (base g h B0 : Nat) (L : Option Addr) (nl cl : Nat) (ls : List Int) (acc a m : Int) (k : Nat) (w : World) (hacc : 0 ≤ acc ∧ acc ≤ 4294967295) (hx : 0 ≤ ls[k]?.getD 0 ∧ ls[k]?.getD 0 ≤ 4294967295)
    (hg : Blk w g 101 #[.int .u32 acc]) (hh : Blk w h 326 #[.slice L nl cl]) (hl : Row .u32 w B0 L nl ls) (hB0 : B0 ≤ w.heap.size) (hk : k < nl) (hnl : nl ≤ 1000) (hgh : g ≠ h) (hbase : base ≤ w.heap.size) :
    Calls Tryz.prog 205 #[.int .i64 k, .int .i64 a, .int .i64 m, .pointer (some ⟨g, 0, none⟩), .pointer (some ⟨h, 0, none⟩)] w fun e w' => e = .returned (.bool (putBB a m (ls[k]?.getD 0))) ∧
      Blk w' g 101 #[.int .u32 (putV acc a m (ls[k]?.getD 0))] ∧ Blk w' h 326 #[.slice L nl cl] ∧ Rest base g w w' := by
  obtain ⟨ad, rfl, hlt, hc⟩ := hl.at_ hk
  have HG := hid fun w => b_Put acc a m (ls[k]?.getD 0) w hacc hx
  generalize putBB a m (ls[k]?.getD 0) = B at *
  generalize putV acc a m (ls[k]?.getD 0) = V at *
  have hR : ∀ w' : World, Below w.heap.size w w' → Rest base g w w' := fun w' hb => ⟨hb.size, fun w0 B h1 h2 h3 => h3.trans (hb.mono (by omega))⟩
  have hB : Below w.heap.size w w := Below.refl _ w
  have k1 : (0 : Int) ≤ (k : Int) := by omega
  have k2 : (k : Int) < (nl : Int) := by omega
  go_enter Tryz.func205, Tryz.ntmps205
  go_wp2
  refine wp_region_noPanic ?_
  refine wp_region_held_drew (S := (fun w' : World => w'.cell? ⟨g, 0, none⟩ = some (.int .u32 acc) ∧ w'.cell? ⟨h, 0, none⟩ = some (.slice (some ad) nl cl) ∧ w'.cell? (ad.add k) = some (.int .u32 (ls[k]?.getD 0)))) (by kernel_rfl) ⟨hg.cell 0, hh.cell 0, hc⟩ (fun hHeld => ?_)
  refine (show wpAnyH _ _ _ _ _ 13 _ _ _ from ?_)
  try (simp only [Act.put, List.setIfInBounds_toArray, List.set_cons_zero, List.set_cons_succ])
  replace hg := hg.drew
  replace hh := hh.drew
  replace hB := hB.drew
  have hc1 : w.drew.cell? (ad.add k) = some (.int .u32 (ls[k]?.getD 0)) := hc
  have hB01 : B0 ≤ w.drew.heap.size := hB0
  have hl1 : Row .u32 w.drew B0 (some ad) nl ls := hl
  generalize w.drew = w1 at *
  refine tk 0 hHeld ?_
  refine tk 1 hHeld ?_
  refine tk 2 hHeld ?_
  refine tk 3 hHeld ?_
  refine tk 4 hHeld ?_
  refine tk 5 hHeld ?_
  refine tk 6 hHeld ?_
  refine rd1 7 (fun K hK => ?_)
  go_simp
  refine (HG.out _).mono ?_
  rintro e w2 ⟨rfl, b2⟩
  go_wp2_with fail
  replace hg := hg.below b2 hg.lt
  replace hh := hh.below b2 hh.lt
  replace hB := hB.trans (b2.mono hB.size)
  have hc2 : w2.cell? (ad.add k) = some (.int .u32 (ls[k]?.getD 0)) := by
    obtain ⟨ad2, e2, _, h2⟩ := (hl1.below (b2.mono hB01)).at_ hk
    cases e2
    exact h2
  refine hK.out _ _ ⟨hg.cell 0, hh.cell 0, hc2⟩ (fun hHeld => ?_)
  clear hK K
  try (simp only [Act.put, List.setIfInBounds_toArray, List.set_cons_zero, List.set_cons_succ])
  refine tk 8 hHeld ?_
  refine tk 9 hHeld ?_
  refine tk 10 hHeld ?_
  refine tk 11 hHeld ?_
  refine tk 12 hHeld ?_
  refine wpAnyH_done ?hru1 ?hqu1 _
  case hru1 => kernel_rfl
  refine NoPanic.normal ?_
  have c0 : w2.cell? ⟨g, 0, none⟩ = some (.int .u32 acc) := hg.cell 0
  have z0 := hg.frozen 0
  have hg5 := hg.set_ 0 (.int .u32 V)
  have hh5 := hh.far (p := ⟨g, 0, none⟩) (fun e => hgh e.symm) (.int .u32 V)
  have R5 : Rest base g w (w2.setCell ⟨g, 0, none⟩ (.int .u32 V)) := ⟨by have := hB.size; simpa [World.setCell] using this, fun w0 B h1 h2 h3 => ((hR w2 hB).2 w0 B h1 h2 h3).setCell (p := ⟨g, 0, none⟩) h1 _⟩
  go_wp2
  go_ret
  exact ⟨rfl, hg5, hh5, R5⟩

/-- Part by part, from the highest on: the word so far, and whether all fit. -/
def joinF (acc : Int) : Int → List Int → List Int → Int × Bool
  | l, n :: r, x :: s => if putBB (l - n) n x = true then joinF (putV acc (l - n) n x) (l - n) r s else (putV acc (l - n) n x, false)
  | _, _, _ => (acc, true)
def PlacedJ (base g : Nat) (ws ls : List Int) (w : World) (e : Ending) (w' : World) : Prop :=
  (okF 32 ws = false ∧ e = .returned (.bool false) ∧ w = w') ∨
  (okF 32 ws = true ∧ e = .returned (.bool (joinF 0 32 ws ls).2) ∧ Blk w' g 101 #[.int .u32 (joinF 0 32 ws ls).1] ∧ Rest base g w w')
theorem putV_bd (u a n v : Int) (hu : 0 ≤ u ∧ u ≤ 4294967295) (hv : 0 ≤ v ∧ v ≤ 4294967295) : 0 ≤ putV u a n v ∧ putV u a n v ≤ 4294967295 := by
  unfold putV
  by_cases h : putBB a n v = true
  · rw [if_pos h]
    unfold putBB at h
    simp only [Bool.and_eq_true, decide_eq_true_eq] at h
    obtain ⟨A, N, rfl, rfl, h1, h2⟩ := place_yes a n h.1
    obtain ⟨_, _, _, r1, r2, _⟩ := int_put u v A N hu ⟨hv.1, by simpa using h.2⟩ (by omega)
    simpa using ⟨r1, r2⟩
  · rw [if_neg h]; omega

set_option maxHeartbeats 8000000 in
theorem p_Join (base g h B0 : Nat) (A : Option Addr) (n c : Nat) (ws : List Int) (L : Option Addr) (cl : Nat) (ls : List Int) (w : World) (hw : Row .i64 w B0 A n ws) (hB0 : B0 ≤ w.heap.size) (hx : ∀ x ∈ ws, -9223372036854775808 ≤ x ∧ x ≤ 9223372036854775807) (hn : n ≤ 40)
    (hl : Row .u32 w B0 L n ls) (hxl : ∀ x ∈ ls, 0 ≤ x ∧ x ≤ 4294967295)
    (hg : Blk w g 101 #[.int .u32 0]) (hh : Blk w h 326 #[.slice L n cl]) (hgb : g < base) (hgh : g ≠ h) (hbase : base ≤ w.heap.size) (hBg : B0 ≤ g) :
    Calls Tryz.prog 204 #[.slice A n c, .func (.func 205) #[] #[.pointer (some ⟨g, 0, none⟩), .pointer (some ⟨h, 0, none⟩)]] w (PlacedJ base g ws ls w) := by
  have HX := hid hx
  clear hx
  have hlen := hw.1
  have HL := hid fun j (hj : j < ls.length) => (show 0 ≤ ls[j]?.getD 0 ∧ ls[j]?.getD 0 ≤ 4294967295 by have := hxl ls[j] (List.getElem_mem hj); simpa [hj] using this)
  have hlenl := hl.1
  clear hxl
  have HC := hid fun acc a m k w h1 h2 h3 h4 h5 h6 h7 h8 => c_Join base g h B0 L n cl ls acc a m k w h1 h2 h3 h4 h5 h6 h7 (by omega) hgh h8
  go_enter Tryz.func204, Tryz.ntmps204
  go_wp2
  go_loop [5, 12] (fun l i => ∃ (j : Nat) (lv : Int), j ≤ n ∧ i = .int .i64 j ∧ l = .int .i64 lv ∧ (0 ≤ lv ∧ lv ≤ 32) ∧ Hid (okF 32 ws = okF lv (ws.drop j))) (fun _ i => n - (intOf i).toNat)
  case atStart => exact ⟨0, 32, by omega, rfl, rfl, by omega, rfl⟩
  case round =>
    obtain ⟨j, lv, hj, rfl, rfl, hlv, hok⟩ := hrel
    by_cases hlt : j < n
    · obtain ⟨ad, rfl, _, hc⟩ := hw.at_ hlt
      have hjl : j < ws.length := by omega
      have hxx : -9223372036854775808 ≤ ws[j]?.getD 0 ∧ ws[j]?.getD 0 ≤ 9223372036854775807 := by
        have := HX.out ws[j] (List.getElem_mem hjl)
        simpa [hjl] using this
      have hd := drop_at ws j hjl
      have ho := hok.out
      rw [hd] at ho
      simp only [okF] at ho
      generalize ws[j]?.getD 0 = x at *
      clear hd
      have ej : IntKind.i64.wrap ((j : Int) + 1) = ((j + 1 : Nat) : Int) := (IntWalk.i64_in _ (by omega)).trans (by omega)
      have mj : n - (j + 1) < n - j := by omega
      by_cases g1 : x < 1
      · have d1 : decide (x < 1) = true := by simpa using g1
        rw [if_pos (.inl g1)] at ho
        have HO := hid ho
        clear ho g1
        go_wp2
        go_ret
        exact .inl ⟨HO.out, rfl, rfl⟩
      · have d1 : decide (x < 1) = false := by simpa using g1
        by_cases g2 : lv < x
        · have d2 : decide (lv < x) = true := by simpa using g2
          rw [if_pos (.inr g2)] at ho
          have HO := hid ho
          clear ho g1 g2
          go_wp2
          go_ret
          exact .inl ⟨HO.out, rfl, rfl⟩
        · have d2 : decide (lv < x) = false := by simpa using g2
          rw [if_neg (by omega)] at ho
          have HO := hid ho
          have u1 : IntKind.i64.wrap (lv - x) = lv - x := IntWalk.i64_in _ (by omega)
          clear ho
          go_wp2
          go_round
          case rel => exact ⟨j + 1, lv - x, by omega, rfl, rfl, by omega, HO⟩
          case measure => simpa [intOf] using mj
    · obtain rfl : j = n := by omega
      have hd : ws.drop j = [] := List.drop_eq_nil_of_le (by omega)
      have ho := hok.out
      rw [hd] at ho
      simp only [okF] at ho
      by_cases g0 : lv = 0
      · subst g0
        have HO : Hid (okF 32 ws = true) := hid (by rw [ho]; rfl)
        clear ho hd hok
        go_wp2
        go_loopw [5, 31] (fun l i wr => ∃ (j : Nat) (lv acc : Int), j ≤ ws.length ∧ i = .int .i64 j ∧ l = .int .i64 lv ∧ (0 ≤ lv ∧ lv ≤ 32) ∧ (0 ≤ acc ∧ acc ≤ 4294967295) ∧ Hid (okF lv (ws.drop j) = true ∧ joinF 0 32 ws ls = joinF acc lv (ws.drop j) (ls.drop j)) ∧
          Blk wr g 101 #[.int .u32 acc] ∧ Blk wr h 326 #[.slice L ws.length cl] ∧ Rest base g w wr) (fun _ i _ => ws.length - (intOf i).toNat)
        case atStart => exact ⟨0, 32, 0, by omega, rfl, rfl, by omega, by omega, ⟨HO.out, rfl⟩, hg, by rw [hlen]; exact hh, ⟨Nat.le_refl _, fun _ _ _ _ h => h⟩⟩
        case round =>
          clear hg hh
          obtain ⟨k, lv, acc, hk, rfl, rfl, hlv, hacc, hi, hg, hh, hR⟩ := hrel
          have hwr := hw.below (hR.2 w B0 hBg (by omega) (Below.refl _ w))
          have hlr := hl.below (hR.2 w B0 hBg (by omega) (Below.refl _ w))
          have hbr : base ≤ wr.heap.size := Nat.le_trans hbase hR.1
          by_cases hlt2 : k < ws.length
          · obtain ⟨ad, rfl, _, hc⟩ := hwr.at_ (show k < j by omega)
            have hd := drop_at ws k hlt2
            have hdl := drop_at ls k (by omega)
            have hxl := HL.out k (by omega)
            obtain ⟨o1, o2⟩ := hi.out
            have HCC := fun (m : Int) => HC.out acc (lv - m) m k wr hacc hxl hg (by rw [← hlen]; exact hh) hlr (Nat.le_trans hB0 hR.1) (by omega) hbr
            rw [hd] at o1 o2
            rw [hdl] at o2
            simp only [okF, joinF] at o1 o2
            have hvb := fun m => putV_bd acc (lv - m) m _ hacc hxl
            generalize ls[k]?.getD 0 = y at *
            generalize ws[k]?.getD 0 = x at *
            clear hd hdl hi
            have hxx : ¬ (x < 1 ∨ lv < x) := fun hh => by rw [if_pos hh] at o1; cases o1
            rw [if_neg hxx] at o1
            have u1 : IntKind.i64.wrap (lv - x) = lv - x := IntWalk.i64_in _ (by omega)
            have ej : IntKind.i64.wrap ((k : Int) + 1) = ((k + 1 : Nat) : Int) := (IntWalk.i64_in _ (by omega)).trans (by omega)
            have mj : ws.length - (k + 1) < ws.length - k := by omega
            have hkl : (k : Int) < (j : Int) := by omega
            have HC2 := hid (HCC x)
            have hv2 := hvb x
            clear HCC hvb
            generalize putV acc (lv - x) x y = V at *
            cases hP : putBB (lv - x) x y
            · rw [hP] at HC2 o2
              have HJ := hid o2
              clear o1 o2 hP
              go_wp2_with fail
              refine HC2.out.mono ?_
              rintro e w2 ⟨rfl, hg2, hh2, hR2⟩
              go_wp2
              go_ret
              exact .inr ⟨HO.out, by rw [HJ.out]; rfl, by rw [HJ.out]; exact hg2, hR.trans hR2⟩
            · rw [hP] at HC2 o2
              have hI : Hid (okF (lv - x) (ws.drop (k + 1)) = true ∧ joinF 0 32 ws ls = joinF V (lv - x) (ws.drop (k + 1)) (ls.drop (k + 1))) := hid ⟨o1, by rw [o2]; rfl⟩
              clear o1 o2 hP
              go_wp2_with fail
              refine HC2.out.mono ?_
              rintro e w2 ⟨rfl, hg2, hh2, hR2⟩
              go_wp2
              go_round
              case rel => exact ⟨k + 1, lv - x, V, by omega, rfl, rfl, by omega, hv2, hI, hg2, by rw [hlen]; exact hh2, hR.trans hR2⟩
              case measure => simpa [intOf] using mj
          · obtain rfl : k = ws.length := by omega
            have hd : ws.drop ws.length = [] := List.drop_eq_nil_of_le (Nat.le_refl _)
            obtain ⟨o1, o2⟩ := hi.out
            rw [hd] at o2
            have hj0 : joinF 0 32 ws ls = (acc, true) := by rw [o2]; cases ls.drop ws.length <;> rfl
            have HJ := hid hj0
            clear hd hi o1 o2 hj0
            have hjl : ¬ ((ws.length : Int) < (j : Int)) := by omega
            go_wp2
            go_ret
            exact .inr ⟨HO.out, by rw [HJ.out]; rfl, by rw [HJ.out]; exact hg, hR⟩
      · have g0' : (lv == 0) = false := by simpa using g0
        rw [g0'] at ho
        have HO := hid ho
        clear ho hd hok
        go_wp2
        go_ret
        exact .inl ⟨HO.out, rfl, rfl⟩

def joinB (ws ls : List Int) : Bool := decide (ls.length = ws.length) && (okF 32 ws && (joinF 0 32 ws ls).2)
def joinV (ws ls : List Int) : Int := if joinB ws ls = true then (joinF 0 32 ws ls).1 else 0
theorem b_Join (A : Option Addr) (n c : Nat) (ws : List Int) (L : Option Addr) (nl cl : Nat) (ls : List Int) (w : World) (hw : Row .i64 w w.heap.size A n ws) (hx : ∀ x ∈ ws, -9223372036854775808 ≤ x ∧ x ≤ 9223372036854775807) (hn : n ≤ 40)
    (hl : Row .u32 w w.heap.size L nl ls) (hxl : ∀ x ∈ ls, 0 ≤ x ∧ x ≤ 4294967295) (hnl : nl ≤ 1000) :
    Calls Tryz.prog 175 #[.slice A n c, .slice L nl cl] w fun e w' => e = .returned (.tuple #[.int .u32 (joinV ws ls), .bool (joinB ws ls)]) ∧ Below w.heap.size w w' := by
  have hmf : ∀ (fn : Fn) (first cap : Array Value) (w : World), (Instr.makeFunc fn first cap).run Tryz.prog w = .ok (.func fn first cap) w := fun _ _ _ _ => rfl
  have e1 := hw.1
  have e2 := hl.1
  have hh : Blk ((w.alloc (.cells #[.slice L nl cl] 326)).alloc (.cells #[.int .u32 0] 101)) w.heap.size 326 #[.slice L nl cl] := (Blk.new w _ _).alloc _
  have hg : Blk ((w.alloc (.cells #[.slice L nl cl] 326)).alloc (.cells #[.int .u32 0] 101)) (w.heap.size + 1) 101 #[.int .u32 0] := by have := Blk.new (w.alloc (.cells #[.slice L nl cl] 326)) 101 #[.int .u32 0]; simpa using this
  have hb : Below w.heap.size w ((w.alloc (.cells #[.slice L nl cl] 326)).alloc (.cells #[.int .u32 0] 101)) := ((Below.refl _ w).alloc (Nat.le_refl _) _).alloc (by simp) _
  have hs : ((w.alloc (.cells #[.slice L nl cl] 326)).alloc (.cells #[.int .u32 0] 101)).heap.size = w.heap.size + 2 := by simp
  by_cases hnn : nl = n
  · subst hnn
    go_enter Tryz.func175, Tryz.ntmps175
    go_wp2_with fail
    generalize (w.alloc (.cells #[.slice L nl cl] 326)).alloc (.cells #[.int .u32 0] 101) = W0 at *
    refine (p_Join (w.heap.size + 2) (w.heap.size + 1) w.heap.size w.heap.size A nl c ws L cl ls W0 (hw.below hb) (by omega) hx hn (hl.below hb) hxl hg hh (by omega) (by omega) (by omega) (by omega)).mono ?_
    rintro e w1 (⟨o, rfl, rfl⟩ | ⟨o, rfl, hg1, hR⟩)
    · have HJ : Hid (joinB ws ls = false ∧ joinV ws ls = 0) := by
        have hj : joinB ws ls = false := by unfold joinB; rw [o]; simp
        exact ⟨hj, by unfold joinV; rw [hj]; rfl⟩
      clear o
      go_wp2
      go_ret2
      exact ⟨by rw [HJ.out.1, HJ.out.2]; rfl, hb⟩
    · have hbw := hR.2 w w.heap.size (by omega) (by omega) hb
      have hjb : joinB ws ls = (joinF 0 32 ws ls).2 := by unfold joinB; rw [o]; simp [e1, e2]
      cases hP : (joinF 0 32 ws ls).2
      · rw [hP] at hjb
        have HJ : Hid (joinB ws ls = false ∧ joinV ws ls = 0) := ⟨hjb, by unfold joinV; rw [hjb]; rfl⟩
        clear o hjb
        go_wp2
        go_ret2
        exact ⟨by rw [HJ.out.1, HJ.out.2]; rfl, hbw⟩
      · rw [hP] at hjb
        have HJ : Hid (joinB ws ls = true ∧ joinV ws ls = (joinF 0 32 ws ls).1) := ⟨hjb, by unfold joinV; rw [hjb]; rfl⟩
        have c0 : w1.cell? ⟨w.heap.size + 1, 0, none⟩ = some (.int .u32 (joinF 0 32 ws ls).1) := hg1.cell 0
        clear o hjb
        generalize (joinF 0 32 ws ls).1 = V at *
        go_wp2
        go_ret2
        exact ⟨by rw [HJ.out.1, HJ.out.2]; rfl, hbw⟩
  · have HJ : Hid (joinB ws ls = false ∧ joinV ws ls = 0) := by
      have hj : joinB ws ls = false := by unfold joinB; rw [decide_eq_false (by omega)]; rfl
      exact ⟨hj, by unfold joinV; rw [hj]; rfl⟩
    have d1 : ((nl : Int) == (n : Int)) = false := by simp; omega
    have hb1 : Below w.heap.size w (w.alloc (.cells #[.slice L nl cl] 326)) := (Below.refl _ w).alloc (Nat.le_refl _) _
    go_enter Tryz.func175, Tryz.ntmps175
    go_wp2
    go_ret2
    exact ⟨by rw [HJ.out.1, HJ.out.2]; rfl, hb1⟩
end Go.Proofs.YtldoocndhfgjhaaGreat
