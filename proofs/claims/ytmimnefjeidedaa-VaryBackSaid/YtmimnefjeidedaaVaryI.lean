/- Chapter 03: the walk of VaryBack. -/
import Derived.Test.YtmimnefjeidedaaVaryH
import Derived.Test.YtmimnefjeidedaaHeld
namespace Go.Proofs.Ytmimnefjeidedaa
open Go.RowKit

/-- A round of the law's loop: what a number's place leads back to, and how many bytes it has. -/
theorem ints_in {xs : List Int} (h : ∀ x ∈ xs, (Lit.int .i64 x).wf = true) : ∀ x ∈ xs, -9223372036854775808 ≤ x ∧ x ≤ 9223372036854775807 := fun x hx => bounds_i64 (h x hx)
theorem ints_at_ {xs : List Int} (h : ∀ x ∈ xs, -9223372036854775808 ≤ x ∧ x ≤ 9223372036854775807) (j : Nat) : -9223372036854775808 ≤ xs[j]?.getD 0 ∧ xs[j]?.getD 0 ≤ 9223372036854775807 := by
  rcases Nat.lt_or_ge j xs.length with hj | hj
  · have := h xs[j] (List.getElem_mem hj)
    simpa [hj] using this
  · simp [List.getElem?_eq_none hj]

set_option maxRecDepth 100000 in
set_option maxHeartbeats 4000000 in
set_option linter.unusedSimpArgs false in
theorem varyBack_walk (A : Option Addr) (n c : Nat) (xs : List Int) (A' : Option Addr) (n' c' : Nat) (ys : List Int) (w : World) (h : In .i64 w A n c xs) (h' : In .u8 w A' n' c' ys) :
    Calls Try.prog 12 #[.slice A n c, .slice A' n' c'] w fun e w' => e = .returned (.bool true) ∧ Below w.heap.size w w' := by
  obtain ⟨hr, hm, hcap, hw⟩ := h
  obtain ⟨hr', hm', hcap', hw'⟩ := h'
  unfold maxLen at hm hm'
  by_cases g1 : 100 < n
  · have d1 : decide ((100 : Int) < n) = true := by simp; omega
    go_enter Try.func12, Try.ntmps12
    go_wp2_with (go_at_call 25; refine (va_knows _).mono ?_; rintro e w' ⟨rfl, hb⟩)
    go_ret
    exact ⟨rfl, hb⟩
  have d1 : decide ((100 : Int) < n) = false := by simp; omega
  by_cases g2 : 1000 < n'
  · have d2 : decide ((1000 : Int) < n') = true := by simp; omega
    go_enter Try.func12, Try.ntmps12
    go_wp2_with (go_at_call 25; refine (va_knows _).mono ?_; rintro e w' ⟨rfl, hb⟩)
    go_ret
    exact ⟨rfl, hb⟩
  have d2 : decide ((1000 : Int) < n') = false := by simp; omega
  have HX := hid (ints_in hw)
  have HB := hid (bytes_in hw')
  clear hw hw'
  obtain ⟨i0, hi, hz, hz1, hz2⟩ := info_parts info8v
  have hil : (intsP xs).length ≤ 10 * n := by have := intsP_len xs; rw [hr.1] at this; exact this
  have HPI : Hid (parseP (n : Int) (intsP xs ++ ys) = (xs, ((intsP xs).length : Int), 0)) := by
    have := parseP_ints xs HX.out ys
    rw [hr.1] at this
    exact this
  have HIB := hid (intsP_bytes xs HX.out)
  obtain ⟨zs, HZ⟩ : ∃ zs, Hid (intsP xs = zs) := ⟨_, rfl⟩
  rw [HZ.out] at hil HPI HIB
  go_enter Try.func12, Try.ntmps12
  go_wp2_with fail
  refine (va_knows _).mono ?_
  rintro e w1 ⟨rfl, b1⟩
  go_wp2_with fail
  have r1 := (hr.below b1).more b1.size
  refine (va_Ints A n c xs _ r1 HX.out (by omega)).mono ?_
  rintro e w2 ⟨A2, c2, rfl, r2, hc2, b2⟩
  rw [HZ.out] at r2 hc2 ⊢
  have b2' := b1.trans (b2.mono b1.size)
  clear r1 b1 b2
  have hr2' := hr'.below b2'
  go_wp2_with (first
    | (at_builtin; refine wpList_app rfl (.tmp 29) (.tmp 30) _ rfl w.heap.size 5 i0 0 1 Try.underlying22 hi hz hz1 hz2 (some ⟨w2.heap.size, 0, none⟩) 0 0 [] rfl (Own.empty .u8 w2 _ b2'.size) (w2.heap.size) A2 zs.length c2 zs rfl (r2.alloc (Nat.le_refl _) _) (by unfold maxLen; omega) (by omega) (by have := b2'.size; simp; omega) ?_; intro A3 c3 w3 ho3 hg3; simp only [Nat.zero_add, List.nil_append] at ho3; have b3 := own_below (b2'.alloc b2'.size _) (Own.empty .u8 w2 _ b2'.size) hg3 (by have := b2'.size; simp; omega))
    | (at_builtin; refine wpList_app rfl (.tmp 31) (.tmp 32) _ rfl w.heap.size 5 i0 0 1 Try.underlying22 hi hz hz1 hz2 A3 zs.length c3 zs rfl ho3 (w.heap.size) A' n' c' ys rfl (hr'.below b3) (by unfold maxLen; omega) (by omega) b3.size ?_; intro A4 c4 w4 ho4 hg4; have b4 := own_below b3 ho3 hg4 b3.size))
  have hbb : ∀ x ∈ zs ++ ys, 0 ≤ x ∧ x ≤ 255 := fun x hx => by
    rcases List.mem_append.1 hx with h1 | h1
    · exact HIB.out x h1
    · exact HB.out x h1
  refine (va_Parse A4 (zs.length + n') c4 (zs ++ ys) n _ ho4.row hbb (by omega) ho4.cap_ (by omega)).mono ?_
  rintro e w5 ⟨A5, c5, rfl, r5, b5⟩
  rw [HPI.out] at r5 ⊢
  simp only at r5 ⊢
  have b5' := b4.trans (b5.mono b4.size)
  clear ho3 ho4 hg3 hg4 hbb b3 b4 b5 r2 hr2' b2'
  have hxl : xs.length = n := hr.1
  rw [hxl] at r5 ⊢
  have HXL := hid hxl
  clear hxl
  go_wp2_with fail
  refine (va_Same A n c xs A5 n c5 xs _ ((hr.below b5').more b5'.size) r5 (by omega) rfl).mono ?_
  rintro e w6 ⟨rfl, b6⟩
  have b6' := b5'.trans (b6.mono b5'.size)
  clear b5' b6 r5
  go_wp2_with fail
  refine (va_num _ _).mono ?_
  rintro e w' ⟨rfl, rfl⟩
  go_wp2_with fail
  go_loopw [9] (fun i wr => ∃ j : Nat, j ≤ n ∧ i = .int .i64 j ∧ Below w.heap.size w wr) (fun i _ => n - (intOf i).toNat)
  case atStart => exact ⟨0, Nat.zero_le _, rfl, b6'⟩
  case round =>
    obtain ⟨j, hj, rfl, hbe⟩ := hrel
    have hs1 := hbe.size
    by_cases hlt : j < n
    · obtain ⟨ad, rfl, hadb0, hc⟩ := (hr.below hbe).at_ hlt
      have hadb : ad.block < wr.drew.heap.size := Nat.lt_of_lt_of_le hadb0 hs1
      have hx := ints_at_ HX.out j
      generalize xs[j]?.getD 0 = x at *
      have hzb := zig_bd x hx
      have q0 : (0 : Int) ≤ (j : Int) := by omega
      have q1 : (j : Int) < (n : Int) := by omega
      go_wp2_with fail
      refine wp_region_noPanic ?_
      refine wp_region_held_drew (S := (fun w' : World => w'.cell? (ad.add j) = some (.int .i64 x))) (by kernel_rfl) hc (fun hHeld => ?_)
      refine (show wpAnyH _ _ _ _ _ 27 _ _ _ from ?_)
      try (simp only [Act.put, List.setIfInBounds_toArray, List.set_cons_zero, List.set_cons_succ])
      refine wpAnyH_take (i := 0) (oi := ?oi0) (v := ?v0) ?hi0 ?hs0 ?hf0 ?hr0 ?hQ0 ?hy0 (by assumption) ?h0
      case hi0 => (simp only [List.getElem?_toArray, List.getElem?_cons_zero, List.getElem?_cons_succ]; rfl)
      case hs0 => kernel_rfl
      case hf0 => kernel_rfl
      case hr0 => kernel_rfl
      case hQ0 => exact fun _ _ _ h => h
      case hy0 => (refine Or.inl ⟨by kernel_rfl, ?_⟩; intro w hSw; (try dsimp only at hSw); go_simp; all_goals (with_reducible rfl))
      try (simp only [Act.put, List.setIfInBounds_toArray, List.set_cons_zero, List.set_cons_succ])
      refine wpAnyH_take (i := 1) (oi := ?oi1) (v := ?v1) ?hi1 ?hs1 ?hf1 ?hr1 ?hQ1 ?hy1 (by assumption) ?h1
      case hi1 => (simp only [List.getElem?_toArray, List.getElem?_cons_zero, List.getElem?_cons_succ]; rfl)
      case hs1 => kernel_rfl
      case hf1 => kernel_rfl
      case hr1 => kernel_rfl
      case hQ1 => exact fun _ _ _ h => h
      case hy1 => (refine Or.inl ⟨by kernel_rfl, ?_⟩; intro w hSw; (try dsimp only at hSw); go_simp; all_goals (with_reducible rfl))
      try (simp only [Act.put, List.setIfInBounds_toArray, List.set_cons_zero, List.set_cons_succ])
      refine wpAnyH_take (i := 2) (oi := ?oi2) (v := ?v2) ?hi2 ?hs2 ?hf2 ?hr2 ?hQ2 ?hy2 (by assumption) ?h2
      case hi2 => (simp only [List.getElem?_toArray, List.getElem?_cons_zero, List.getElem?_cons_succ]; rfl)
      case hs2 => kernel_rfl
      case hf2 => kernel_rfl
      case hr2 => kernel_rfl
      case hQ2 => exact fun _ _ _ h => h
      case hy2 => (refine Or.inl ⟨by kernel_rfl, ?_⟩; intro w hSw; (try dsimp only at hSw); go_simp; all_goals (with_reducible rfl))
      try (simp only [Act.put, List.setIfInBounds_toArray, List.set_cons_zero, List.set_cons_succ])
      refine wpAnyH_take (i := 6) (oi := ?oi6) (v := ?v6) ?hi6 ?hs6 ?hf6 ?hr6 ?hQ6 ?hy6 (by assumption) ?h6
      case hi6 => (simp only [List.getElem?_toArray, List.getElem?_cons_zero, List.getElem?_cons_succ]; rfl)
      case hs6 => kernel_rfl
      case hf6 => kernel_rfl
      case hr6 => kernel_rfl
      case hQ6 => exact fun _ _ _ h => h
      case hy6 => (refine Or.inl ⟨by kernel_rfl, ?_⟩; intro w hSw; (try dsimp only at hSw); go_simp; all_goals (with_reducible rfl))
      try (simp only [Act.put, List.setIfInBounds_toArray, List.set_cons_zero, List.set_cons_succ])
      refine wpAnyH_take (i := 7) (oi := ?oi7) (v := ?v7) ?hi7 ?hs7 ?hf7 ?hr7 ?hQ7 ?hy7 (by assumption) ?h7
      case hi7 => (simp only [List.getElem?_toArray, List.getElem?_cons_zero, List.getElem?_cons_succ]; rfl)
      case hs7 => kernel_rfl
      case hf7 => kernel_rfl
      case hr7 => kernel_rfl
      case hQ7 => exact fun _ _ _ h => h
      case hy7 => (refine Or.inl ⟨by kernel_rfl, ?_⟩; intro w hSw; (try dsimp only at hSw); go_simp; all_goals (with_reducible rfl))
      try (simp only [Act.put, List.setIfInBounds_toArray, List.set_cons_zero, List.set_cons_succ])
      refine wpAnyH_take (i := 8) (oi := ?oi8) (v := ?v8) ?hi8 ?hs8 ?hf8 ?hr8 ?hQ8 ?hy8 (by assumption) ?h8
      case hi8 => (simp only [List.getElem?_toArray, List.getElem?_cons_zero, List.getElem?_cons_succ]; rfl)
      case hs8 => kernel_rfl
      case hf8 => kernel_rfl
      case hr8 => kernel_rfl
      case hQ8 => exact fun _ _ _ h => h
      case hy8 => (refine Or.inl ⟨by kernel_rfl, ?_⟩; intro w hSw; (try dsimp only at hSw); go_simp; all_goals (with_reducible rfl))
      try (simp only [Act.put, List.setIfInBounds_toArray, List.set_cons_zero, List.set_cons_succ])
      refine wpAnyH_take (i := 3) (oi := ?oi3) (v := ?v3) ?hi3 ?hs3 ?hf3 ?hr3 ?hQ3 ?hy3 (by assumption) ?h3
      case hi3 => (simp only [List.getElem?_toArray, List.getElem?_cons_zero, List.getElem?_cons_succ]; rfl)
      case hs3 => kernel_rfl
      case hf3 => kernel_rfl
      case hr3 => kernel_rfl
      case hQ3 => exact fun _ _ _ h => h
      case hy3 => (refine Or.inl ⟨by kernel_rfl, ?_⟩; intro w hSw; (try dsimp only at hSw); go_simp; all_goals (with_reducible rfl))
      try (simp only [Act.put, List.setIfInBounds_toArray, List.set_cons_zero, List.set_cons_succ])
      refine wpAnyH_take (i := 9) (oi := ?oi9) (v := ?v9) ?hi9 ?hs9 ?hf9 ?hr9 ?hQ9 ?hy9 (by assumption) ?h9
      case hi9 => (simp only [List.getElem?_toArray, List.getElem?_cons_zero, List.getElem?_cons_succ]; rfl)
      case hs9 => kernel_rfl
      case hf9 => kernel_rfl
      case hr9 => kernel_rfl
      case hQ9 => exact fun _ _ _ h => h
      case hy9 => (refine Or.inl ⟨by kernel_rfl, ?_⟩; intro w hSw; (try dsimp only at hSw); go_simp; all_goals (with_reducible rfl))
      try (simp only [Act.put, List.setIfInBounds_toArray, List.set_cons_zero, List.set_cons_succ])
      refine wpAnyH_ready (rs := [4]) ?hr4 ?hne4 ?h4
      case hr4 => kernel_rfl
      case hne4 => simp
      refine AllReadyH.cons (i := 4) (o := ?o4) ?ho4 (fun K hK => ?hc4) AllReadyH.nil
      case ho4 => (simp only [List.getElem?_toArray, List.getElem?_cons_zero, List.getElem?_cons_succ]; rfl)
      go_simp
      refine (va_Zig x _ hx).mono ?_
      rintro e w' ⟨rfl, rfl⟩
      go_wp2_with fail
      refine hK.out _ _ hHeld (fun hHeld => ?_)
      clear hK K
      try (simp only [Act.put, List.setIfInBounds_toArray, List.set_cons_zero, List.set_cons_succ])
      refine wpAnyH_ready (rs := [5]) ?hr5 ?hne5 ?h5
      case hr5 => kernel_rfl
      case hne5 => simp
      refine AllReadyH.cons (i := 5) (o := ?o5) ?ho5 (fun K hK => ?hc5) AllReadyH.nil
      case ho5 => (simp only [List.getElem?_toArray, List.getElem?_cons_zero, List.getElem?_cons_succ]; rfl)
      go_simp
      refine (va_Zag (zigP x) _ hzb).mono ?_
      rintro e w' ⟨rfl, rfl⟩
      rw [zag_zig]
      go_wp2_with fail
      refine hK.out _ _ hHeld (fun hHeld => ?_)
      clear hK K
      try (simp only [Act.put, List.setIfInBounds_toArray, List.set_cons_zero, List.set_cons_succ])
      refine wpAnyH_take (i := 10) (oi := ?oi10) (v := ?v10) ?hi10 ?hs10 ?hf10 ?hr10 ?hQ10 ?hy10 (by assumption) ?h10
      case hi10 => (simp only [List.getElem?_toArray, List.getElem?_cons_zero, List.getElem?_cons_succ]; rfl)
      case hs10 => kernel_rfl
      case hf10 => kernel_rfl
      case hr10 => kernel_rfl
      case hQ10 => exact fun _ _ _ h => h
      case hy10 => (refine Or.inl ⟨by kernel_rfl, ?_⟩; intro w hSw; (try dsimp only at hSw); go_simp; all_goals (with_reducible rfl))
      try (simp only [Act.put, List.setIfInBounds_toArray, List.set_cons_zero, List.set_cons_succ])
      refine wpAnyH_take (i := 11) (oi := ?oi11) (v := ?v11) ?hi11 ?hs11 ?hf11 ?hr11 ?hQ11 ?hy11 (by assumption) ?h11
      case hi11 => (simp only [List.getElem?_toArray, List.getElem?_cons_zero, List.getElem?_cons_succ]; rfl)
      case hs11 => kernel_rfl
      case hf11 => kernel_rfl
      case hr11 => kernel_rfl
      case hQ11 => exact fun _ _ _ h => h
      case hy11 => (refine Or.inl ⟨by kernel_rfl, ?_⟩; intro w hSw; (try dsimp only at hSw); go_simp; all_goals (with_reducible rfl))
      try (simp only [Act.put, List.setIfInBounds_toArray, List.set_cons_zero, List.set_cons_succ])
      refine wpAnyH_take (i := 12) (oi := ?oi12) (v := ?v12) ?hi12 ?hs12 ?hf12 ?hr12 ?hQ12 ?hy12 (by assumption) ?h12
      case hi12 => (simp only [List.getElem?_toArray, List.getElem?_cons_zero, List.getElem?_cons_succ]; rfl)
      case hs12 => kernel_rfl
      case hf12 => kernel_rfl
      case hr12 => kernel_rfl
      case hQ12 => exact fun _ _ _ h => h
      case hy12 => (refine Or.inl ⟨by kernel_rfl, ?_⟩; intro w hSw; (try dsimp only at hSw); go_simp; all_goals (with_reducible rfl))
      try (simp only [Act.put, List.setIfInBounds_toArray, List.set_cons_zero, List.set_cons_succ])
      refine wpAnyH_take (i := 13) (oi := ?oi13) (v := ?v13) ?hi13 ?hs13 ?hf13 ?hr13 ?hQ13 ?hy13 (by assumption) ?h13
      case hi13 => (simp only [List.getElem?_toArray, List.getElem?_cons_zero, List.getElem?_cons_succ]; rfl)
      case hs13 => kernel_rfl
      case hf13 => kernel_rfl
      case hr13 => kernel_rfl
      case hQ13 => exact fun _ _ _ h => h
      case hy13 => (refine Or.inl ⟨by kernel_rfl, ?_⟩; intro w hSw; (try dsimp only at hSw); go_simp; all_goals (with_reducible rfl))
      try (simp only [Act.put, List.setIfInBounds_toArray, List.set_cons_zero, List.set_cons_succ])
      refine wpAnyH_take (i := 14) (oi := ?oi14) (v := ?v14) ?hi14 ?hs14 ?hf14 ?hr14 ?hQ14 ?hy14 (by assumption) ?h14
      case hi14 => (simp only [List.getElem?_toArray, List.getElem?_cons_zero, List.getElem?_cons_succ]; rfl)
      case hs14 => kernel_rfl
      case hf14 => kernel_rfl
      case hr14 => kernel_rfl
      case hQ14 => exact fun _ _ _ h => h
      case hy14 => (refine Or.inl ⟨by kernel_rfl, ?_⟩; intro w hSw; (try dsimp only at hSw); go_simp; all_goals (with_reducible rfl))
      try (simp only [Act.put, List.setIfInBounds_toArray, List.set_cons_zero, List.set_cons_succ])
      refine wpAnyH_take (i := 18) (oi := ?oi18) (v := ?v18) ?hi18 ?hs18 ?hf18 ?hr18 ?hQ18 ?hy18 (by assumption) ?h18
      case hi18 => (simp only [List.getElem?_toArray, List.getElem?_cons_zero, List.getElem?_cons_succ]; rfl)
      case hs18 => kernel_rfl
      case hf18 => kernel_rfl
      case hr18 => kernel_rfl
      case hQ18 => exact fun _ _ _ h => h
      case hy18 => (refine Or.inl ⟨by kernel_rfl, ?_⟩; intro w hSw; (try dsimp only at hSw); go_simp; all_goals (with_reducible rfl))
      try (simp only [Act.put, List.setIfInBounds_toArray, List.set_cons_zero, List.set_cons_succ])
      refine wpAnyH_take (i := 19) (oi := ?oi19) (v := ?v19) ?hi19 ?hs19 ?hf19 ?hr19 ?hQ19 ?hy19 (by assumption) ?h19
      case hi19 => (simp only [List.getElem?_toArray, List.getElem?_cons_zero, List.getElem?_cons_succ]; rfl)
      case hs19 => kernel_rfl
      case hf19 => kernel_rfl
      case hr19 => kernel_rfl
      case hQ19 => exact fun _ _ _ h => h
      case hy19 => (refine Or.inl ⟨by kernel_rfl, ?_⟩; intro w hSw; (try dsimp only at hSw); go_simp; all_goals (with_reducible rfl))
      try (simp only [Act.put, List.setIfInBounds_toArray, List.set_cons_zero, List.set_cons_succ])
      refine wpAnyH_take (i := 20) (oi := ?oi20) (v := ?v20) ?hi20 ?hs20 ?hf20 ?hr20 ?hQ20 ?hy20 (by assumption) ?h20
      case hi20 => (simp only [List.getElem?_toArray, List.getElem?_cons_zero, List.getElem?_cons_succ]; rfl)
      case hs20 => kernel_rfl
      case hf20 => kernel_rfl
      case hr20 => kernel_rfl
      case hQ20 => exact fun _ _ _ h => h
      case hy20 => (refine Or.inl ⟨by kernel_rfl, ?_⟩; intro w hSw; (try dsimp only at hSw); go_simp; all_goals (with_reducible rfl))
      try (simp only [Act.put, List.setIfInBounds_toArray, List.set_cons_zero, List.set_cons_succ])
      refine wpAnyH_take (i := 15) (oi := ?oi15) (v := ?v15) ?hi15 ?hs15 ?hf15 ?hr15 ?hQ15 ?hy15 (by assumption) ?h15
      case hi15 => (simp only [List.getElem?_toArray, List.getElem?_cons_zero, List.getElem?_cons_succ]; rfl)
      case hs15 => kernel_rfl
      case hf15 => kernel_rfl
      case hr15 => kernel_rfl
      case hQ15 => exact fun _ _ _ h => h
      case hy15 => (refine Or.inl ⟨by kernel_rfl, ?_⟩; intro w hSw; (try dsimp only at hSw); go_simp; all_goals (with_reducible rfl))
      try (simp only [Act.put, List.setIfInBounds_toArray, List.set_cons_zero, List.set_cons_succ])
      refine wpAnyH_take (i := 21) (oi := ?oi21) (v := ?v21) ?hi21 ?hs21 ?hf21 ?hr21 ?hQ21 ?hy21 (by assumption) ?h21
      case hi21 => (simp only [List.getElem?_toArray, List.getElem?_cons_zero, List.getElem?_cons_succ]; rfl)
      case hs21 => kernel_rfl
      case hf21 => kernel_rfl
      case hr21 => kernel_rfl
      case hQ21 => exact fun _ _ _ h => h
      case hy21 => (refine Or.inl ⟨by kernel_rfl, ?_⟩; intro w hSw; (try dsimp only at hSw); go_simp; all_goals (with_reducible rfl))
      try (simp only [Act.put, List.setIfInBounds_toArray, List.set_cons_zero, List.set_cons_succ])
      refine wpAnyH_ready (rs := [16]) ?hr16 ?hne16 ?h16
      case hr16 => kernel_rfl
      case hne16 => simp
      refine AllReadyH.cons (i := 16) (o := ?o16) ?ho16 (fun K hK => ?hc16) AllReadyH.nil
      case ho16 => (simp only [List.getElem?_toArray, List.getElem?_cons_zero, List.getElem?_cons_succ]; rfl)
      go_simp
      refine (va_Zig x _ hx).mono ?_
      rintro e w' ⟨rfl, rfl⟩
      go_wp2_with fail
      refine hK.out _ _ hHeld (fun hHeld => ?_)
      clear hK K
      try (simp only [Act.put, List.setIfInBounds_toArray, List.set_cons_zero, List.set_cons_succ])
      refine wpAnyH_ready (rs := [17]) ?hr17 ?hne17 ?h17
      case hr17 => kernel_rfl
      case hne17 => simp
      refine AllReadyH.cons (i := 17) (o := ?o17) ?ho17 (fun K hK => ?hc17) AllReadyH.nil
      case ho17 => (simp only [List.getElem?_toArray, List.getElem?_cons_zero, List.getElem?_cons_succ]; rfl)
      go_simp
      refine (va_Size (zigP x) _ hzb).mono ?_
      rintro e w' ⟨rfl, rfl⟩
      go_wp2_with fail
      refine hK.out _ _ hHeld (fun hHeld => ?_)
      clear hK K
      try (simp only [Act.put, List.setIfInBounds_toArray, List.set_cons_zero, List.set_cons_succ])
      refine wpAnyH_ready (rs := [22]) ?hr22 ?hne22 ?h22
      case hr22 => kernel_rfl
      case hne22 => simp
      refine AllReadyH.cons (i := 22) (o := ?o22) ?ho22 (fun K hK => ?hc22) AllReadyH.nil
      case ho22 => (simp only [List.getElem?_toArray, List.getElem?_cons_zero, List.getElem?_cons_succ]; rfl)
      go_simp
      refine (va_Zig x _ hx).mono ?_
      rintro e w' ⟨rfl, rfl⟩
      go_wp2_with fail
      refine hK.out _ _ hHeld (fun hHeld => ?_)
      clear hK K
      try (simp only [Act.put, List.setIfInBounds_toArray, List.set_cons_zero, List.set_cons_succ])
      refine wpAnyH_ready (rs := [23]) ?hr23 ?hne23 ?h23
      case hr23 => kernel_rfl
      case hne23 => simp
      refine AllReadyH.cons (i := 23) (o := ?o23) ?ho23 (fun K hK => ?hc23) AllReadyH.nil
      case ho23 => (simp only [List.getElem?_toArray, List.getElem?_cons_zero, List.getElem?_cons_succ]; rfl)
      go_simp
      refine (va_Put (zigP x) _ hzb).mono ?_
      rintro e w8 ⟨A8, c8, rfl, r8, hc8, b8⟩
      go_wp2_with fail
      refine hK.out _ _ ((b8.cell (p := ad.add j) (by rw [add_block]; exact hadb)).trans hHeld) (fun hHeld => ?_)
      clear hK K
      try (simp only [Act.put, List.setIfInBounds_toArray, List.set_cons_zero, List.set_cons_succ])
      refine wpAnyH_take (i := 24) (oi := ?oi24) (v := ?v24) ?hi24 ?hs24 ?hf24 ?hr24 ?hQ24 ?hy24 (by assumption) ?h24
      case hi24 => (simp only [List.getElem?_toArray, List.getElem?_cons_zero, List.getElem?_cons_succ]; rfl)
      case hs24 => kernel_rfl
      case hf24 => kernel_rfl
      case hr24 => kernel_rfl
      case hQ24 => exact fun _ _ _ h => h
      case hy24 => (refine Or.inl ⟨by kernel_rfl, ?_⟩; intro w hSw; (try dsimp only at hSw); go_simp; all_goals (with_reducible rfl))
      try (simp only [Act.put, List.setIfInBounds_toArray, List.set_cons_zero, List.set_cons_succ])
      refine wpAnyH_take (i := 25) (oi := ?oi25) (v := ?v25) ?hi25 ?hs25 ?hf25 ?hr25 ?hQ25 ?hy25 (by assumption) ?h25
      case hi25 => (simp only [List.getElem?_toArray, List.getElem?_cons_zero, List.getElem?_cons_succ]; rfl)
      case hs25 => kernel_rfl
      case hf25 => kernel_rfl
      case hr25 => kernel_rfl
      case hQ25 => exact fun _ _ _ h => h
      case hy25 => (refine Or.inl ⟨by kernel_rfl, ?_⟩; intro w hSw; (try dsimp only at hSw); go_simp; all_goals (with_reducible rfl))
      try (simp only [Act.put, List.setIfInBounds_toArray, List.set_cons_zero, List.set_cons_succ])
      refine wpAnyH_take (i := 26) (oi := ?oi26) (v := ?v26) ?hi26 ?hs26 ?hf26 ?hr26 ?hQ26 ?hy26 (by assumption) ?h26
      case hi26 => (simp only [List.getElem?_toArray, List.getElem?_cons_zero, List.getElem?_cons_succ]; rfl)
      case hs26 => kernel_rfl
      case hf26 => kernel_rfl
      case hr26 => kernel_rfl
      case hQ26 => exact fun _ _ _ h => h
      case hy26 => (refine Or.inl ⟨by kernel_rfl, ?_⟩; intro w hSw; (try dsimp only at hSw); go_simp; all_goals (with_reducible rfl))
      try (simp only [Act.put, List.setIfInBounds_toArray, List.set_cons_zero, List.set_cons_succ])
      refine wpAnyH_done ?hrz ?hqz _
      case hrz => kernel_rfl
      refine NoPanic.normal ?_
      go_wp2
      go_roundw
      case rel => exact ⟨j + 1, by omega, by go_num, (hbe.drew).trans (b8.mono hs1)⟩
      case measure => simp [intOf]; omega
    · obtain rfl : j = n := by omega
      clear HPI HXL
      have r7 := (hr'.below hbe).more hs1
      go_wp2_with fail
      refine (va_Take A' n' c' ys _ r7 HB.out (by omega)).mono ?_
      rintro e w' h2
      unfold Takes at h2
      obtain ⟨rfl, rfl⟩ := h2
      have HF := hid (takeF_fail ys 0 0)
      have HP := hid (put_takeP ys HB.out)
      have HD := hid (takeP_bd ys HB.out)
      change Hid ((takeP ys).2.2 ≠ 0 → (takeP ys).1 = 0 ∧ (takeP ys).2.1 = 0) at HF
      generalize takeP ys = T at *
      obtain ⟨v, kk, er⟩ := T
      go_wp2_with fail
      refine (va_num _ _).mono ?_
      rintro e w' ⟨rfl, rfl⟩
      by_cases ge : er = 0
      · subst ge
        obtain ⟨hd1, hd2, hv0, hv1⟩ := HD.out rfl
        obtain ⟨k, hk, hk2⟩ := HP.out rfl
        subst hk
        clear HP HD HF
        rw [hr'.1] at hd2
        have hbk : Row .u8 wr.drew wr.drew.heap.size A' k (ys.take k) := r7.take (by omega) (fun e => by have := r7.2.1 e; omega)
        have hk2 := hk2.symm
        have HK := hid hk2
        have HKL : Hid ((ys.take k).length = k) := hbk.1
        clear hk2
        have q0 : (0 : Int) ≤ (k : Int) := by omega
        have q1 : (k : Int) ≤ (c' : Int) := by omega
        have q2 : decide ((1 : Int) ≤ (k : Int)) = true := by simp; omega
        have q3 : decide ((k : Int) ≤ (n' : Int)) = true := by simp; omega
        go_wp2_with fail
        refine wp_region_noPanic ?_
        refine wp_region_held_drew (S := (fun w' : World => (convert 22 9 (.slice A' k c')).run Try.prog w' = .ok (.string (strOfNums (putP v))) w')) (by kernel_rfl) (by rw [HK.out]; exact run_str hbk 22 9 5 c' Try.underlying22 Try.underlying5 Try.underlying9) (fun hHeld => ?_)
        refine (show wpAnyH _ _ _ _ _ 19 _ _ _ from ?_)
        try (simp only [Act.put, List.setIfInBounds_toArray, List.set_cons_zero, List.set_cons_succ])
        refine wpAnyH_take (i := 0) (oi := ?oib0) (v := ?vb0) ?hib0 ?hsb0 ?hfb0 ?hrb0 ?hQb0 ?hyb0 (by assumption) ?hb0
        case hib0 => (simp only [List.getElem?_toArray, List.getElem?_cons_zero, List.getElem?_cons_succ]; rfl)
        case hsb0 => kernel_rfl
        case hfb0 => kernel_rfl
        case hrb0 => kernel_rfl
        case hQb0 => exact fun _ _ _ h => h
        case hyb0 => (refine Or.inl ⟨by kernel_rfl, ?_⟩; intro w hSw; (try dsimp only at hSw); go_simp; all_goals (with_reducible rfl))
        try (simp only [Act.put, List.setIfInBounds_toArray, List.set_cons_zero, List.set_cons_succ])
        refine wpAnyH_take (i := 1) (oi := ?oib1) (v := ?vb1) ?hib1 ?hsb1 ?hfb1 ?hrb1 ?hQb1 ?hyb1 (by assumption) ?hb1
        case hib1 => (simp only [List.getElem?_toArray, List.getElem?_cons_zero, List.getElem?_cons_succ]; rfl)
        case hsb1 => kernel_rfl
        case hfb1 => kernel_rfl
        case hrb1 => kernel_rfl
        case hQb1 => exact fun _ _ _ h => h
        case hyb1 => (refine Or.inl ⟨by kernel_rfl, ?_⟩; intro w hSw; (try dsimp only at hSw); go_simp; all_goals (with_reducible rfl))
        try (simp only [Act.put, List.setIfInBounds_toArray, List.set_cons_zero, List.set_cons_succ])
        refine wpAnyH_take (i := 2) (oi := ?oib2) (v := ?vb2) ?hib2 ?hsb2 ?hfb2 ?hrb2 ?hQb2 ?hyb2 (by assumption) ?hb2
        case hib2 => (simp only [List.getElem?_toArray, List.getElem?_cons_zero, List.getElem?_cons_succ]; rfl)
        case hsb2 => kernel_rfl
        case hfb2 => kernel_rfl
        case hrb2 => kernel_rfl
        case hQb2 => exact fun _ _ _ h => h
        case hyb2 => (refine Or.inl ⟨by kernel_rfl, ?_⟩; intro w hSw; (try dsimp only at hSw); go_simp; all_goals (with_reducible rfl))
        try (simp only [Act.put, List.setIfInBounds_toArray, List.set_cons_zero, List.set_cons_succ])
        refine wpAnyH_take (i := 3) (oi := ?oib3) (v := ?vb3) ?hib3 ?hsb3 ?hfb3 ?hrb3 ?hQb3 ?hyb3 (by assumption) ?hb3
        case hib3 => (simp only [List.getElem?_toArray, List.getElem?_cons_zero, List.getElem?_cons_succ]; rfl)
        case hsb3 => kernel_rfl
        case hfb3 => kernel_rfl
        case hrb3 => kernel_rfl
        case hQb3 => exact fun _ _ _ h => h
        case hyb3 => (refine Or.inl ⟨by kernel_rfl, ?_⟩; intro w hSw; (try dsimp only at hSw); go_simp; all_goals (with_reducible rfl))
        try (simp only [Act.put, List.setIfInBounds_toArray, List.set_cons_zero, List.set_cons_succ])
        refine wpAnyH_take (i := 4) (oi := ?oib4) (v := ?vb4) ?hib4 ?hsb4 ?hfb4 ?hrb4 ?hQb4 ?hyb4 (by assumption) ?hb4
        case hib4 => (simp only [List.getElem?_toArray, List.getElem?_cons_zero, List.getElem?_cons_succ]; rfl)
        case hsb4 => kernel_rfl
        case hfb4 => kernel_rfl
        case hrb4 => kernel_rfl
        case hQb4 => exact fun _ _ _ h => h
        case hyb4 => (refine Or.inl ⟨by kernel_rfl, ?_⟩; intro w hSw; (try dsimp only at hSw); go_simp; all_goals (with_reducible rfl))
        try (simp only [Act.put, List.setIfInBounds_toArray, List.set_cons_zero, List.set_cons_succ])
        refine wpAnyH_take (i := 5) (oi := ?oib5) (v := ?vb5) ?hib5 ?hsb5 ?hfb5 ?hrb5 ?hQb5 ?hyb5 (by assumption) ?hb5
        case hib5 => (simp only [List.getElem?_toArray, List.getElem?_cons_zero, List.getElem?_cons_succ]; rfl)
        case hsb5 => kernel_rfl
        case hfb5 => kernel_rfl
        case hrb5 => kernel_rfl
        case hQb5 => exact fun _ _ _ h => h
        case hyb5 => (refine Or.inl ⟨by kernel_rfl, ?_⟩; intro w hSw; (try dsimp only at hSw); go_simp; all_goals (with_reducible rfl))
        try (simp only [Act.put, List.setIfInBounds_toArray, List.set_cons_zero, List.set_cons_succ])
        refine wpAnyH_take (i := 6) (oi := ?oib6) (v := ?vb6) ?hib6 ?hsb6 ?hfb6 ?hrb6 ?hQb6 ?hyb6 (by assumption) ?hb6
        case hib6 => (simp only [List.getElem?_toArray, List.getElem?_cons_zero, List.getElem?_cons_succ]; rfl)
        case hsb6 => kernel_rfl
        case hfb6 => kernel_rfl
        case hrb6 => kernel_rfl
        case hQb6 => exact fun _ _ _ h => h
        case hyb6 => (refine Or.inl ⟨by kernel_rfl, ?_⟩; intro w hSw; (try dsimp only at hSw); go_simp; all_goals (with_reducible rfl))
        try (simp only [Act.put, List.setIfInBounds_toArray, List.set_cons_zero, List.set_cons_succ])
        refine wpAnyH_take (i := 7) (oi := ?oib7) (v := ?vb7) ?hib7 ?hsb7 ?hfb7 ?hrb7 ?hQb7 ?hyb7 (by assumption) ?hb7
        case hib7 => (simp only [List.getElem?_toArray, List.getElem?_cons_zero, List.getElem?_cons_succ]; rfl)
        case hsb7 => kernel_rfl
        case hfb7 => kernel_rfl
        case hrb7 => kernel_rfl
        case hQb7 => exact fun _ _ _ h => h
        case hyb7 => (refine Or.inl ⟨by kernel_rfl, ?_⟩; intro w hSw; (try dsimp only at hSw); go_simp; all_goals (with_reducible rfl))
        try (simp only [Act.put, List.setIfInBounds_toArray, List.set_cons_zero, List.set_cons_succ])
        refine wpAnyH_take (i := 8) (oi := ?oib8) (v := ?vb8) ?hib8 ?hsb8 ?hfb8 ?hrb8 ?hQb8 ?hyb8 (by assumption) ?hb8
        case hib8 => (simp only [List.getElem?_toArray, List.getElem?_cons_zero, List.getElem?_cons_succ]; rfl)
        case hsb8 => kernel_rfl
        case hfb8 => kernel_rfl
        case hrb8 => kernel_rfl
        case hQb8 => exact fun _ _ _ h => h
        case hyb8 => (refine Or.inl ⟨by kernel_rfl, ?_⟩; intro w hSw; (try dsimp only at hSw); go_simp; all_goals (with_reducible rfl))
        try (simp only [Act.put, List.setIfInBounds_toArray, List.set_cons_zero, List.set_cons_succ])
        refine wpAnyH_take (i := 9) (oi := ?oib9) (v := ?vb9) ?hib9 ?hsb9 ?hfb9 ?hrb9 ?hQb9 ?hyb9 (by assumption) ?hb9
        case hib9 => (simp only [List.getElem?_toArray, List.getElem?_cons_zero, List.getElem?_cons_succ]; rfl)
        case hsb9 => kernel_rfl
        case hfb9 => kernel_rfl
        case hrb9 => kernel_rfl
        case hQb9 => exact fun _ _ _ h => h
        case hyb9 => (refine Or.inl ⟨by kernel_rfl, ?_⟩; intro w hSw; (try dsimp only at hSw); go_simp; all_goals (with_reducible rfl))
        try (simp only [Act.put, List.setIfInBounds_toArray, List.set_cons_zero, List.set_cons_succ])
        refine wpAnyH_take (i := 12) (oi := ?oib12) (v := ?vb12) ?hib12 ?hsb12 ?hfb12 ?hrb12 ?hQb12 ?hyb12 (by assumption) ?hb12
        case hib12 => (simp only [List.getElem?_toArray, List.getElem?_cons_zero, List.getElem?_cons_succ]; rfl)
        case hsb12 => kernel_rfl
        case hfb12 => kernel_rfl
        case hrb12 => kernel_rfl
        case hQb12 => exact fun _ _ _ h => h
        case hyb12 => (refine Or.inl ⟨by kernel_rfl, ?_⟩; intro w hSw; (try dsimp only at hSw); go_simp; all_goals (with_reducible rfl))
        try (simp only [Act.put, List.setIfInBounds_toArray, List.set_cons_zero, List.set_cons_succ])
        refine wpAnyH_take (i := 13) (oi := ?oib13) (v := ?vb13) ?hib13 ?hsb13 ?hfb13 ?hrb13 ?hQb13 ?hyb13 (by assumption) ?hb13
        case hib13 => (simp only [List.getElem?_toArray, List.getElem?_cons_zero, List.getElem?_cons_succ]; rfl)
        case hsb13 => kernel_rfl
        case hfb13 => kernel_rfl
        case hrb13 => kernel_rfl
        case hQb13 => exact fun _ _ _ h => h
        case hyb13 => (refine Or.inl ⟨by kernel_rfl, ?_⟩; intro w hSw; (try dsimp only at hSw); go_simp; all_goals (with_reducible rfl))
        try (simp only [Act.put, List.setIfInBounds_toArray, List.set_cons_zero, List.set_cons_succ])
        refine wpAnyH_take (i := 14) (oi := ?oib14) (v := ?vb14) ?hib14 ?hsb14 ?hfb14 ?hrb14 ?hQb14 ?hyb14 (by assumption) ?hb14
        case hib14 => (simp only [List.getElem?_toArray, List.getElem?_cons_zero, List.getElem?_cons_succ]; rfl)
        case hsb14 => kernel_rfl
        case hfb14 => kernel_rfl
        case hrb14 => kernel_rfl
        case hQb14 => exact fun _ _ _ h => h
        case hyb14 => (refine Or.inl ⟨by kernel_rfl, ?_⟩; intro w hSw; (try dsimp only at hSw); go_simp; all_goals (with_reducible rfl))
        try (simp only [Act.put, List.setIfInBounds_toArray, List.set_cons_zero, List.set_cons_succ])
        refine wpAnyH_take (i := 15) (oi := ?oib15) (v := ?vb15) ?hib15 ?hsb15 ?hfb15 ?hrb15 ?hQb15 ?hyb15 (by assumption) ?hb15
        case hib15 => (simp only [List.getElem?_toArray, List.getElem?_cons_zero, List.getElem?_cons_succ]; rfl)
        case hsb15 => kernel_rfl
        case hfb15 => kernel_rfl
        case hrb15 => kernel_rfl
        case hQb15 => exact fun _ _ _ h => h
        case hyb15 => (refine Or.inl ⟨by kernel_rfl, ?_⟩; intro w hSw; (try dsimp only at hSw); go_simp; all_goals (with_reducible rfl))
        try (simp only [Act.put, List.setIfInBounds_toArray, List.set_cons_zero, List.set_cons_succ])
        refine wpAnyH_ready (rs := [10]) ?hrb10 ?hneb10 ?hb10
        case hrb10 => kernel_rfl
        case hneb10 => simp
        refine AllReadyH.cons (i := 10) (o := ?ob10) ?hob10 (fun K hK => ?hcb10) AllReadyH.nil
        case hob10 => (simp only [List.getElem?_toArray, List.getElem?_cons_zero, List.getElem?_cons_succ]; rfl)
        go_simp
        refine (va_Put v _ ⟨hv0, hv1⟩).mono ?_
        rintro e w9 ⟨A9, c9, rfl, r9, hc9, b9⟩
        go_wp2_with fail
        refine hK.out _ _ (by rw [HK.out]; exact run_str (hbk.below b9) 22 9 5 c' Try.underlying22 Try.underlying5 Try.underlying9) (fun hHeld => ?_)
        clear hK K
        try (simp only [Act.put, List.setIfInBounds_toArray, List.set_cons_zero, List.set_cons_succ])
        refine wpAnyH_more (fun w' : World => (convert 22 9 (.slice A9 (putP v).length c9)).run Try.prog w' = .ok (.string (strOfNums (putP v))) w') (run_str r9 22 9 5 c9 Try.underlying22 Try.underlying5 Try.underlying9) hHeld (fun hHeld => ?_)
        refine wpAnyH_take (i := 11) (oi := ?oib11) (v := ?vb11) ?hib11 ?hsb11 ?hfb11 ?hrb11 ?hQb11 ?hyb11 (by assumption) ?hb11
        case hib11 => (simp only [List.getElem?_toArray, List.getElem?_cons_zero, List.getElem?_cons_succ]; rfl)
        case hsb11 => kernel_rfl
        case hfb11 => kernel_rfl
        case hrb11 => kernel_rfl
        case hQb11 => exact fun _ _ _ h => h
        case hyb11 => (refine Or.inl ⟨by kernel_rfl, ?_⟩; intro w hSw; (try dsimp only at hSw); go_simp; all_goals (with_reducible rfl))
        try (simp only [Act.put, List.setIfInBounds_toArray, List.set_cons_zero, List.set_cons_succ])
        refine wpAnyH_take (i := 16) (oi := ?oib16) (v := ?vb16) ?hib16 ?hsb16 ?hfb16 ?hrb16 ?hQb16 ?hyb16 (by assumption) ?hb16
        case hib16 => (simp only [List.getElem?_toArray, List.getElem?_cons_zero, List.getElem?_cons_succ]; rfl)
        case hsb16 => kernel_rfl
        case hfb16 => kernel_rfl
        case hrb16 => kernel_rfl
        case hQb16 => exact fun _ _ _ h => h
        case hyb16 => (refine Or.inl ⟨by kernel_rfl, ?_⟩; intro w hSw; (try dsimp only at hSw); go_simp; all_goals (with_reducible rfl))
        try (simp only [Act.put, List.setIfInBounds_toArray, List.set_cons_zero, List.set_cons_succ])
        refine wpAnyH_take (i := 17) (oi := ?oib17) (v := ?vb17) ?hib17 ?hsb17 ?hfb17 ?hrb17 ?hQb17 ?hyb17 (by assumption) ?hb17
        case hib17 => (simp only [List.getElem?_toArray, List.getElem?_cons_zero, List.getElem?_cons_succ]; rfl)
        case hsb17 => kernel_rfl
        case hfb17 => kernel_rfl
        case hrb17 => kernel_rfl
        case hQb17 => exact fun _ _ _ h => h
        case hyb17 => (refine Or.inl ⟨by kernel_rfl, ?_⟩; intro w hSw; (try dsimp only at hSw); go_simp; all_goals (with_reducible rfl))
        try (simp only [Act.put, List.setIfInBounds_toArray, List.set_cons_zero, List.set_cons_succ])
        refine wpAnyH_take (i := 18) (oi := ?oib18) (v := ?vb18) ?hib18 ?hsb18 ?hfb18 ?hrb18 ?hQb18 ?hyb18 (by assumption) ?hb18
        case hib18 => (simp only [List.getElem?_toArray, List.getElem?_cons_zero, List.getElem?_cons_succ]; rfl)
        case hsb18 => kernel_rfl
        case hfb18 => kernel_rfl
        case hrb18 => kernel_rfl
        case hQb18 => exact fun _ _ _ h => h
        case hyb18 => (refine Or.inl ⟨by kernel_rfl, ?_⟩; intro w hSw; (try dsimp only at hSw); go_simp; all_goals (with_reducible rfl))
        try (simp only [Act.put, List.setIfInBounds_toArray, List.set_cons_zero, List.set_cons_succ])
        refine wpAnyH_done ?hrbz ?hqbz _
        case hrbz => kernel_rfl
        refine NoPanic.normal ?_
        go_wp2
        go_ret
        exact ⟨rfl, (hbe.drew).trans (b9.mono hs1)⟩
      · have ge' : (er != 0) = true := by simpa using ge
        obtain ⟨h1, h2⟩ := HF.out ge
        subst h1
        subst h2
        clear ge HF HP HD
        go_wp2
        go_ret
        exact ⟨rfl, hbe⟩
end Go.Proofs.Ytmimnefjeidedaa
