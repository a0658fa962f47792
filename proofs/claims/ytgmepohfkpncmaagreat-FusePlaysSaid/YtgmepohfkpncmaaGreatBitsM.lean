/- Chapter 08: what the reference says of a word's parts. -/
import Derived.Test.YtgmepohfkpncmaaGreatBitsJ
import Derived.Test.YtgmepohfkpncmaaGreatOwn
import Derived.Deep.CutRange
namespace Go.Proofs.YtgmepohfkpncmaaGreat
open Go.RowKit
set_option linter.unusedVariables false
set_option linter.unusedSimpArgs false

theorem okF_neg : ∀ (ws : List Int) (l : Int), l < 0 → okF l ws = false
  | [], l, h => by simp [okF]; omega
  | n :: r, l, h => by simp only [okF]; rw [if_pos (by omega)]
theorem r8_Right (A : Option Addr) (n c : Nat) (ws : List Int) (w : World) (hw : Row .i64 w w.heap.size A n ws) (hx : ∀ x ∈ ws, -9223372036854775808 ≤ x ∧ x ≤ 9223372036854775807) (hn : n ≤ 40) :
    Calls Tryz.prog 101 #[.slice A n c] w fun e w' => e = .returned (.bool (okF 32 ws)) ∧ w = w' := by
  have HX := hid hx
  clear hx
  have hlen := hw.1
  go_enter Tryz.func101, Tryz.ntmps101
  go_wp2
  go_loop [3, 4] (fun s i => ∃ (j : Nat) (t : Int), j ≤ n ∧ i = .int .i64 j ∧ s = .int .i64 t ∧ (0 ≤ t ∧ t ≤ 64) ∧ Hid (okF 32 ws = okF (32 - t) (ws.drop j))) (fun _ i => n - (intOf i).toNat)
  case atStart => exact ⟨0, 0, by omega, rfl, rfl, by omega, rfl⟩
  case round =>
    obtain ⟨j, t, hj, rfl, rfl, ht, hok⟩ := hrel
    by_cases hlt : j < n
    · obtain ⟨ad, rfl, _, hc⟩ := hw.at_ hlt
      have hjl : j < ws.length := by omega
      have hxx : -9223372036854775808 ≤ ws[j]?.getD 0 ∧ ws[j]?.getD 0 ≤ 9223372036854775807 := by
        have := HX.out ws[j] (List.getElem_mem hjl)
        simpa [hjl] using this
      have hd := drop_at ws j hjl
      have ho := hok.out
      rw [hd] at ho
      simp only [okF] at ho
      generalize ws[j]?.getD 0 = x at *
      clear hd
      have ej : IntKind.i64.wrap ((j : Int) + 1) = ((j + 1 : Nat) : Int) := (IntWalk.i64_in _ (by omega)).trans (by omega)
      have mj : n - (j + 1) < n - j := by omega
      by_cases g1 : x < 1
      · have d1 : decide (x < 1) = true := by simpa using g1
        rw [if_pos (.inl g1)] at ho
        have HO := hid ho
        clear ho g1
        go_wp2
        go_ret
        exact ⟨by rw [HO.out]; rfl, rfl⟩
      have d1 : decide (x < 1) = false := by simpa using g1
      by_cases g2 : 32 < x
      · have d2 : decide (32 < x) = true := by simpa using g2
        rw [if_pos (.inr (by omega))] at ho
        have HO := hid ho
        clear ho g1 g2
        go_wp2
        go_ret
        exact ⟨by rw [HO.out]; rfl, rfl⟩
      have d2 : decide (32 < x) = false := by simpa using g2
      by_cases g3 : 32 < t
      · have d3 : decide (32 < t) = true := by simpa using g3
        rw [if_pos (.inr (by omega))] at ho
        have HO := hid ho
        clear ho g1 g2 g3
        go_wp2
        go_ret
        exact ⟨by rw [HO.out]; rfl, rfl⟩
      have d3 : decide (32 < t) = false := by simpa using g3
      have u1 : IntKind.i64.wrap (t + x) = t + x := IntWalk.i64_in _ (by omega)
      have HO : Hid (okF 32 ws = okF (32 - (t + x)) (ws.drop (j + 1))) := hid (by
        rw [ho, show 32 - (t + x) = 32 - t - x by omega]
        by_cases g4 : 32 - t < x
        · rw [if_pos (.inr g4), okF_neg _ _ (by omega)]
        · rw [if_neg (by omega)])
      clear ho
      go_wp2
      go_round
      case rel => exact ⟨j + 1, t + x, by omega, rfl, rfl, by omega, HO⟩
      case measure => simpa [intOf] using mj
    · obtain rfl : j = n := by omega
      have hd : ws.drop j = [] := List.drop_eq_nil_of_le (by omega)
      have ho := hok.out
      rw [hd] at ho
      simp only [okF] at ho
      have e : (32 - t == 0) = (t == 32) := by
        by_cases h : t = 32
        · subst h; rfl
        · have a : (32 - t == 0) = false := by simp; omega
          have b : (t == 32) = false := by simpa using h
          rw [a, b]
      rw [e] at ho
      have HO := hid ho
      clear ho hd hok e
      go_wp2
      go_ret
      exact ⟨by rw [HO.out]; rfl, rfl⟩

end Go.Proofs.YtgmepohfkpncmaaGreat
namespace Go.Proofs.YtgmepohfkpncmaaGreat
open Go.RowKit
set_option linter.unusedVariables false
set_option linter.unusedSimpArgs false

end Go.Proofs.YtgmepohfkpncmaaGreat
namespace Go.Proofs.YtgmepohfkpncmaaGreat
open Go.RowKit
set_option linter.unusedVariables false
set_option linter.unusedSimpArgs false

def refF : Int → List Int → List Int → Int × Bool
  | acc, n :: r, x :: s => if 2 ^ n.toNat ≤ x then (0, false) else refF (acc * 2 ^ n.toNat + x) r s
  | acc, _, _ => (acc, true)
/-- Bit by bit, or number by number: the same word. -/
theorem join_ref : ∀ (ws ls : List Int) (lv : Nat) (R : Int), lv ≤ 32 → okF lv ws = true → ls.length = ws.length → 0 ≤ R → (R + 1) * 2 ^ lv ≤ 4294967296 → (∀ x ∈ ls, 0 ≤ x ∧ x ≤ 4294967295) →
    (joinF (R * 2 ^ lv) lv ws ls).2 = (refF R ws ls).2 ∧ ((refF R ws ls).2 = true → (joinF (R * 2 ^ lv) lv ws ls).1 = (refF R ws ls).1 ∧ 0 ≤ (refF R ws ls).1 ∧ (refF R ws ls).1 ≤ 4294967295)
  | [], ls, lv, R, h1, h2, h3, h4, h5, h6 => by
    simp only [okF] at h2
    have : lv = 0 := by simpa using h2
    subst this
    have : ls = [] := List.eq_nil_of_length_eq_zero (by simpa using h3)
    subst this
    simp at h5
    simp [joinF, refF]
    omega
  | n :: r, [], lv, R, h1, h2, h3, h4, h5, h6 => by simp at h3
  | n :: r, x :: s, lv, R, h1, h2, h3, h4, h5, h6 => by
    simp only [okF] at h2
    have hn : ¬ (n < 1 ∨ (lv : Int) < n) := fun hh => by rw [if_pos hh] at h2; cases h2
    rw [if_neg hn] at h2
    obtain ⟨N, rfl⟩ := Int.eq_ofNat_of_zero_le (show 0 ≤ n by omega)
    obtain ⟨M, rfl⟩ : ∃ M, lv = N + M := ⟨lv - N, by omega⟩
    have eM : ((N + M : Nat) : Int) - N = (M : Int) := by omega
    have hx := h6 x (by simp)
    have hpl : placeB M N = true := by unfold placeB; simp; omega
    have hN : (0 : Int) < 2 ^ N := Int.pow_pos (by omega)
    have hM : (0 : Int) < 2 ^ M := Int.pow_pos (by omega)
    rw [eM] at h2
    simp only [joinF, refF, eM, Int.toNat_natCast]
    by_cases g : 2 ^ N ≤ x
    · have hb : putB M N x = false := by unfold putB; rw [hpl]; simpa using g
      rw [hb, if_pos g]
      simp
    · have hb : putB M N x = true := by unfold putB; rw [hpl]; simpa using g
      rw [if_neg g, if_pos hb]
      have hv : putV (R * 2 ^ (N + M)) M N x = (R * 2 ^ N + x) * 2 ^ M := by
        unfold putV
        rw [if_pos hb]
        simp only [Int.toNat_natCast]
        rw [Nat.add_comm M N, Int.mul_ediv_cancel _ (show (2 : Int) ^ (N + M) ≠ 0 from Int.ne_of_gt (Int.pow_pos (by omega)))]
        have e0 : R * 2 ^ (N + M) % 2 ^ M = 0 := by rw [Int.pow_add, ← Int.mul_assoc]; exact Int.mul_emod_left _ _
        rw [e0, Int.pow_add]
        grind
      rw [hv]
      have h7 : (R * 2 ^ N + x + 1) * 2 ^ M ≤ 4294967296 := by
        rw [Int.pow_add, ← Int.mul_assoc, Int.add_mul, Int.one_mul] at h5
        exact Int.le_trans (Int.mul_le_mul_of_nonneg_right (by omega) (by omega)) h5
      have hR0 : 0 ≤ R * 2 ^ N := Int.mul_nonneg h4 (by omega)
      exact join_ref r s M (R * 2 ^ N + x) (by omega) h2 (by simpa using h3) (by omega) h7 (fun y hy => h6 y (by simp [hy]))
theorem refF_bd : ∀ (ws ls : List Int) (R : Int), (refF R ws ls).2 = false → (refF R ws ls).1 = 0
  | [], ls, R, h => by simp [refF] at h
  | n :: r, [], R, h => by simp [refF] at h
  | n :: r, x :: s, R, h => by
    simp only [refF] at h ⊢
    by_cases g : 2 ^ n.toNat ≤ x
    · rw [if_pos g]
    · rw [if_neg g] at h ⊢
      exact refF_bd r s _ h

set_option maxHeartbeats 16000000 in
theorem r8_Join (A : Option Addr) (n c : Nat) (ws : List Int) (L : Option Addr) (nl cl : Nat) (ls : List Int) (w : World) (hw : Row .i64 w w.heap.size A n ws) (hx : ∀ x ∈ ws, -9223372036854775808 ≤ x ∧ x ≤ 9223372036854775807) (hn : n ≤ 40)
    (hl : Row .u32 w w.heap.size L nl ls) (hxl : ∀ x ∈ ls, 0 ≤ x ∧ x ≤ 4294967295) (hnl : nl ≤ 1000) :
    Calls Tryz.prog 74 #[.slice A n c, .slice L nl cl] w fun e w' => e = .returned (.tuple #[.int .u32 (joinV ws ls), .bool (joinB ws ls)]) ∧ Below w.heap.size w w' := by
  have HR := hid fun w h => r8_Right A n c ws w h hx hn
  have e1 := hw.1
  have e2 := hl.1
  clear hx
  cases hB : okF 32 ws
  · have HJ : Hid (joinB ws ls = false ∧ joinV ws ls = 0) := by
      have hj : joinB ws ls = false := by unfold joinB; rw [hB]; simp
      exact ⟨hj, by unfold joinV; rw [hj]; rfl⟩
    rw [hB] at HR
    clear hB
    go_enter Tryz.func74, Tryz.ntmps74
    go_wp2_with fail
    refine (HR.out _ hw).mono ?_
    rintro e w' ⟨rfl, rfl⟩
    go_wp2
    go_ret2
    exact ⟨by rw [HJ.out.1, HJ.out.2]; rfl, Below.refl _ w⟩
  by_cases hnn : nl = n
  · subst hnn
    have HL := hid fun j (hj : j < ls.length) => (show 0 ≤ ls[j]?.getD 0 ∧ ls[j]?.getD 0 ≤ 4294967295 by have := hxl ls[j] (List.getElem_mem hj); simpa [hj] using this)
    obtain ⟨j1, j2⟩ := join_ref ws ls 32 0 (by omega) hB (by omega) (by omega) (by decide +kernel) hxl
    have hjb : joinB ws ls = (refF 0 ws ls).2 := by unfold joinB; rw [hB, ← j1]; simp [e1, e2]
    have hz := refF_bd ws ls 0
    have hjv : joinV ws ls = (refF 0 ws ls).1 := by
      unfold joinV
      rw [hjb]
      cases h : (refF 0 ws ls).2
      · rw [hz h]; rfl
      · rw [if_pos rfl, ← (j2 h).1]; simp
    have HJ := hid (And.intro hjb hjv)
    rw [hB] at HR
    have HB := hid hB
    clear hjb hjv hz j1 j2 hB hxl
    go_enter Tryz.func74, Tryz.ntmps74
    go_wp2_with fail
    refine (HR.out _ hw).mono ?_
    rintro e w' ⟨rfl, rfl⟩
    go_wp2
    go_loopw [6, 7] (fun a i wr => ∃ (j lv : Nat) (R : Int), j ≤ ws.length ∧ lv ≤ 32 ∧ i = .int .i64 j ∧ a = .int .u64 R ∧ 0 ≤ R ∧ Hid ((R + 1) * 2 ^ lv ≤ 4294967296 ∧ okF lv (ws.drop j) = true ∧ refF 0 ws ls = refF R (ws.drop j) (ls.drop j)) ∧ Below w.heap.size w wr) (fun _ i _ => ws.length - (intOf i).toNat)
    case atStart => exact ⟨0, 32, 0, by omega, by omega, rfl, rfl, by omega, ⟨by decide +kernel, HB.out, rfl⟩, Below.refl _ w⟩
    case round =>
      obtain ⟨j, lv, R, hj, hlv, rfl, rfl, hR0, hi, hb⟩ := hrel
      have hwr := hw.below hb
      have hlr := hl.below hb
      by_cases hlt : j < ws.length
      · obtain ⟨aw, rfl, _, cw⟩ := hwr.at_ (show j < nl by omega)
        obtain ⟨al, rfl, _, cl1⟩ := hlr.at_ (show j < nl by omega)
        have hd := drop_at ws j hlt
        have hdl := drop_at ls j (by omega)
        have hxl := HL.out j (by omega)
        obtain ⟨o1, o2, o3⟩ := hi.out
        rw [hd] at o2 o3
        rw [hdl] at o3
        simp only [okF, refF] at o2 o3
        generalize ls[j]?.getD 0 = x at *
        generalize ws[j]?.getD 0 = m at *
        clear hd hdl hi
        have hm : ¬ (m < 1 ∨ (lv : Int) < m) := fun hh => by rw [if_pos hh] at o2; cases o2
        rw [if_neg hm] at o2
        obtain ⟨N, rfl⟩ := Int.eq_ofNat_of_zero_le (show 0 ≤ m by omega)
        obtain ⟨M, rfl⟩ : ∃ M, lv = N + M := ⟨lv - N, by omega⟩
        have eM : ((N + M : Nat) : Int) - N = (M : Int) := by omega
        rw [eM] at o2
        simp only [Int.toNat_natCast] at o3
        have HP := hid fun w => r8_Power N w (by omega)
        obtain ⟨p1, p2⟩ := pow_bd N (by omega)
        have hM : (0 : Int) < 2 ^ M := Int.pow_pos (by omega)
        have k1 : (0 : Int) ≤ (j : Int) := by omega
        have k2 : (j : Int) < (nl : Int) := by omega
        have ej : IntKind.i64.wrap ((j : Int) + 1) = ((j + 1 : Nat) : Int) := (IntWalk.i64_in _ (by omega)).trans (by omega)
        have mj : ws.length - (j + 1) < ws.length - j := by omega
        have ux : IntKind.u64.wrap x = x := IntWalk.u64_in _ (by omega)
        by_cases g : 2 ^ N ≤ x
        · have dg : decide (2 ^ N ≤ x) = true := by simpa using g
          rw [if_pos g] at o3
          have HO := hid o3
          clear o1 o2 o3 g
          go_wp2
          refine wp_region_noPanic ?_
          refine wp_region_held_drew (S := (fun w' : World => w'.cell? (aw.add j) = some (.int .i64 N) ∧ w'.cell? (al.add j) = some (.int .u32 x))) (by kernel_rfl) ⟨cw, cl1⟩ (fun hH => ?_)
          refine (show wpAnyH _ _ _ _ _ 11 _ _ _ from ?_)
          try (simp only [Act.put, List.setIfInBounds_toArray, List.set_cons_zero, List.set_cons_succ])
          have cw7 : wr.drew.cell? (aw.add j) = some (.int .i64 N) := cw
          have cl7 : wr.drew.cell? (al.add j) = some (.int .u32 x) := cl1
          clear cw cl1
          replace hb := hb.drew
          generalize wr.drew = w7 at *
          refine tk 0 hH ?_
          refine tk 1 hH ?_
          refine tk 2 hH ?_
          refine tk 3 hH ?_
          refine tk 4 hH ?_
          refine tk 5 hH ?_
          refine tk 6 hH ?_
          refine tk 7 hH ?_
          refine tk 8 hH ?_
          refine rd1 9 (fun K hK => ?_)
          go_simp
          refine (HP.out _).mono ?_
          rintro e w' ⟨rfl, rfl⟩
          go_wp2_with fail
          refine hK.out _ _ hH (fun hH => ?_)
          clear hK K
          try (simp only [Act.put, List.setIfInBounds_toArray, List.set_cons_zero, List.set_cons_succ])
          refine tk 10 hH ?_
          refine wpAnyH_done ?hru1 ?hqu1 _
          case hru1 => kernel_rfl
          refine NoPanic.normal ?_
          go_wp2
          go_ret2
          exact ⟨by rw [HJ.out.1, HJ.out.2, HO.out]; rfl, hb⟩
        · have dg : decide (2 ^ N ≤ x) = false := by simpa using g
          rw [if_neg g] at o3
          rw [Int.pow_add, ← Int.mul_assoc, Int.add_mul, Int.one_mul] at o1
          have h7 : (R * 2 ^ N + x + 1) * 2 ^ M ≤ 4294967296 := Int.le_trans (Int.mul_le_mul_of_nonneg_right (by omega) (by omega)) o1
          have hRN : 0 ≤ R * 2 ^ N := Int.mul_nonneg hR0 (by omega)
          have h8 : R * 2 ^ N + x + 1 ≤ (R * 2 ^ N + x + 1) * 2 ^ M := by
            have := Int.mul_le_mul_of_nonneg_left (show (1 : Int) ≤ 2 ^ M by omega) (show 0 ≤ R * 2 ^ N + x + 1 by omega)
            omega
          have um : IntKind.u64.wrap (R * 2 ^ N) = R * 2 ^ N := IntWalk.u64_in _ (by omega)
          have ut : IntKind.u64.wrap (R * 2 ^ N + x) = R * 2 ^ N + x := IntWalk.u64_in _ (by omega)
          have hI : Hid ((R * 2 ^ N + x + 1) * 2 ^ M ≤ 4294967296 ∧ okF M (ws.drop (j + 1)) = true ∧ refF 0 ws ls = refF (R * 2 ^ N + x) (ws.drop (j + 1)) (ls.drop (j + 1))) := hid ⟨h7, o2, o3⟩
          have hT0 : 0 ≤ R * 2 ^ N + x := by omega
          clear o1 o2 o3 g h7 h8
          generalize hP : (2 : Int) ^ N = P at *
          clear hP
          go_wp2
          refine wp_region_noPanic ?_
          refine wp_region_held_drew (S := (fun w' : World => w'.cell? (aw.add j) = some (.int .i64 N) ∧ w'.cell? (al.add j) = some (.int .u32 x))) (by kernel_rfl) ⟨cw, cl1⟩ (fun hH => ?_)
          refine (show wpAnyH _ _ _ _ _ 11 _ _ _ from ?_)
          try (simp only [Act.put, List.setIfInBounds_toArray, List.set_cons_zero, List.set_cons_succ])
          have cw8 : wr.drew.cell? (aw.add j) = some (.int .i64 N) := cw
          have cl8 : wr.drew.cell? (al.add j) = some (.int .u32 x) := cl1
          clear cw cl1
          replace hb := hb.drew
          generalize wr.drew = w8 at *
          refine tk 0 hH ?_
          refine tk 1 hH ?_
          refine tk 2 hH ?_
          refine tk 3 hH ?_
          refine tk 4 hH ?_
          refine tk 5 hH ?_
          refine tk 6 hH ?_
          refine tk 7 hH ?_
          refine tk 8 hH ?_
          refine rd1 9 (fun K hK => ?_)
          go_simp
          refine (HP.out _).mono ?_
          rintro e w' ⟨rfl, rfl⟩
          go_wp2_with fail
          refine hK.out _ _ hH (fun hH => ?_)
          clear hK K
          try (simp only [Act.put, List.setIfInBounds_toArray, List.set_cons_zero, List.set_cons_succ])
          refine tk 10 hH ?_
          refine wpAnyH_done ?hru2 ?hqu2 _
          case hru2 => kernel_rfl
          refine NoPanic.normal ?_
          go_upto_region 9 with fail
          refine wp_region_noPanic ?_
          refine wp_region_held_drew (S := (fun w' : World => w'.cell? (aw.add j) = some (.int .i64 N) ∧ w'.cell? (al.add j) = some (.int .u32 x))) (by kernel_rfl) ⟨cw8, cl8⟩ (fun hH => ?_)
          refine (show wpAnyH _ _ _ _ _ 14 _ _ _ from ?_)
          try (simp only [Act.put, List.setIfInBounds_toArray, List.set_cons_zero, List.set_cons_succ])
          have cw9 : w8.drew.cell? (aw.add j) = some (.int .i64 N) := cw8
          have cl9 : w8.drew.cell? (al.add j) = some (.int .u32 x) := cl8
          clear cw8 cl8
          replace hb := hb.drew
          generalize w8.drew = w9 at *
          refine tk 0 hH ?_
          refine tk 1 hH ?_
          refine tk 2 hH ?_
          refine tk 3 hH ?_
          refine tk 4 hH ?_
          refine tk 7 hH ?_
          refine tk 8 hH ?_
          refine tk 9 hH ?_
          refine tk 10 hH ?_
          refine tk 11 hH ?_
          refine rd1 5 (fun K hK => ?_)
          go_simp
          refine (HP.out _).mono ?_
          rintro e w' ⟨rfl, rfl⟩
          go_wp2_with fail
          refine hK.out _ _ hH (fun hH => ?_)
          clear hK K
          try (simp only [Act.put, List.setIfInBounds_toArray, List.set_cons_zero, List.set_cons_succ])
          refine tk 6 hH ?_
          refine tk 12 hH ?_
          refine tk 13 hH ?_
          refine wpAnyH_done ?hru3 ?hqu3 _
          case hru3 => kernel_rfl
          refine NoPanic.normal ?_
          go_wp2
          go_round
          case rel => exact ⟨j + 1, M, R * P + x, by omega, by omega, rfl, rfl, hT0, hI, hb⟩
          case measure => simpa [intOf] using mj
      · obtain rfl : j = ws.length := by omega
        have hd : ws.drop ws.length = [] := List.drop_eq_nil_of_le (Nat.le_refl _)
        obtain ⟨o1, o2, o3⟩ := hi.out
        rw [hd] at o2 o3
        simp only [okF] at o2
        have hl0 : lv = 0 := by simpa using o2
        subst hl0
        have o4 : refF 0 ws ls = (R, true) := by rw [o3]; cases ls.drop ws.length <;> rfl
        have hRb : R ≤ 4294967295 := by simp at o1; omega
        have HO := hid o4
        have ur : IntKind.u32.wrap R = R := IntWalk.u32_in _ (by omega)
        have hjl : ¬ ((ws.length : Int) < (nl : Int)) := by omega
        clear o1 o2 o3 o4 hi hd
        go_wp2
        go_ret2
        exact ⟨by rw [HJ.out.1, HJ.out.2, HO.out]; rfl, hb⟩
  · have HJ : Hid (joinB ws ls = false ∧ joinV ws ls = 0) := by
      have hj : joinB ws ls = false := by unfold joinB; rw [decide_eq_false (by omega)]; rfl
      exact ⟨hj, by unfold joinV; rw [hj]; rfl⟩
    have d1 : ((nl : Int) == (n : Int)) = false := by simp; omega
    rw [hB] at HR
    clear hB
    go_enter Tryz.func74, Tryz.ntmps74
    go_wp2_with fail
    refine (HR.out _ hw).mono ?_
    rintro e w' ⟨rfl, rfl⟩
    go_wp2
    go_ret2
    exact ⟨by rw [HJ.out.1, HJ.out.2]; rfl, Below.refl _ w⟩
end Go.Proofs.YtgmepohfkpncmaaGreat
