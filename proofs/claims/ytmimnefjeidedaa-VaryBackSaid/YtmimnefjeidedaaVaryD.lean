/- Chapter 03: the walk of VaryPuts. -/
import Derived.Test.YtmimnefjeidedaaVaryC
import Derived.Test.YtmimnefjeidedaaHeld
namespace Go.Proofs.Ytmimnefjeidedaa
open Go.RowKit

theorem va_num (n : Int) (w : World) : Calls Try.prog 44 #[.int .i64 n] w fun e w' => e = .returned (.int .i64 n) ∧ w = w' := by
  go_enter Try.func44, Try.ntmps44
  go_wp2
  go_ret
  exact ⟨rfl, rfl⟩
theorem va_knows (w : World) : Calls Try.prog 25 #[] w fun e w' => e = .returned (.bool true) ∧ Below w.heap.size w w' := by
  have HP : Hid (putP 300 = [172, 2]) := by show _ = _; decide +kernel
  have HT : Hid (takeP [128, 0] = (0, 0, 3)) := by show _ = _; decide +kernel
  have HZ : Hid (zigP (-1) = 1) := by show _ = _; decide +kernel
  go_enter Try.func25, Try.ntmps25
  go_wp2_with fail
  refine (va_Put 300 _ (by omega)).mono ?_
  rintro e w1 ⟨A1, c1, rfl, r1, hc1, b1⟩
  rw [HP.out] at r1 ⊢
  simp only [List.length_cons, List.length_nil, Nat.zero_add, Nat.reduceAdd] at r1 ⊢
  go_wp2_with fail
  refine (va_Take _ _ _ [128, 0] _ (Row.blk (Blk.new _ _ _) rfl (by simp)) (by simp) (by simp)).mono ?_
  rintro e w2 h2
  unfold Takes at h2
  rw [HT.out] at h2
  obtain ⟨rfl, rfl⟩ := h2
  have r2 : Row .u8 (w1.alloc (.cells #[.int .u8 128, .int .u8 0] 5)) (w1.heap.size + 1) A1 2 [172, 2] := (r1.alloc (Nat.le_refl _) _).more (by omega)
  have k2 := run_str r2 22 9 5 c1 Try.underlying22 Try.underlying5 Try.underlying9
  have k3 := run_str (Row.blk (xs := [172, 2]) (k := .u8) (Blk.new (w1.alloc (.cells #[.int .u8 128, .int .u8 0] 5)) 5 #[.int .u8 172, .int .u8 2]) rfl (Nat.lt_succ_self _)) 22 9 5 2 Try.underlying22 Try.underlying5 Try.underlying9
  simp only [World.size_alloc, List.length_cons, List.length_nil, Nat.zero_add, Nat.reduceAdd] at k3
  clear r1 r2
  go_wp2_with fail
  refine (va_Zig (-1) _ (by omega)).mono ?_
  rintro e w' ⟨rfl, rfl⟩
  rw [HZ.out]
  go_wp2_with fail
  refine (va_num _ _).mono ?_
  rintro e w' ⟨rfl, rfl⟩
  go_wp2_with fail
  refine (va_num _ _).mono ?_
  rintro e w' ⟨rfl, rfl⟩
  go_wp2
  go_ret
  exact ⟨rfl, (b1.alloc b1.size _).alloc (by have := b1.size; simp; omega) _⟩

set_option maxHeartbeats 4000000 in
set_option linter.unusedSimpArgs false in
theorem varyPuts_walk (n u : Int) (w : World) (hn0 : (Lit.int .i64 n).wf = true) (hu0 : (Lit.int .u64 u).wf = true) :
    Calls Try.prog 4 #[.int .i64 n, .int .u64 u] w fun e w' => e = .returned (.bool true) ∧ Below w.heap.size w w' := by
  have hn := bounds_i64 hn0
  have hu := bounds_u64 hu0
  clear hn0 hu0
  go_enter Try.func4, Try.ntmps4
  go_wp2_with fail
  refine wp_region_noPanic ?_
  refine wp_region_held_drew (S := fun _ => True) (by kernel_rfl) trivial (fun hHeld => ?_)
  refine (show wpAnyH _ _ _ _ _ 33 _ _ _ from ?_)
  try (simp only [Act.put, List.setIfInBounds_toArray, List.set_cons_zero, List.set_cons_succ])
  refine wpAnyH_take (i := 0) (oi := ?oi0) (v := ?v0) ?hi0 ?hs0 ?hf0 ?hr0 ?hQ0 ?hy0 (by assumption) ?h0
  case hi0 => (simp only [List.getElem?_toArray, List.getElem?_cons_zero, List.getElem?_cons_succ]; rfl)
  case hs0 => kernel_rfl
  case hf0 => kernel_rfl
  case hr0 => kernel_rfl
  case hQ0 => exact fun _ _ _ h => h
  case hy0 => (refine Or.inl ⟨by kernel_rfl, ?_⟩; intro w hSw; (try dsimp only at hSw); go_simp; all_goals (with_reducible rfl))
  try (simp only [Act.put, List.setIfInBounds_toArray, List.set_cons_zero, List.set_cons_succ])
  refine wpAnyH_take (i := 2) (oi := ?oi2) (v := ?v2) ?hi2 ?hs2 ?hf2 ?hr2 ?hQ2 ?hy2 (by assumption) ?h2
  case hi2 => (simp only [List.getElem?_toArray, List.getElem?_cons_zero, List.getElem?_cons_succ]; rfl)
  case hs2 => kernel_rfl
  case hf2 => kernel_rfl
  case hr2 => kernel_rfl
  case hQ2 => exact fun _ _ _ h => h
  case hy2 => (refine Or.inl ⟨by kernel_rfl, ?_⟩; intro w hSw; (try dsimp only at hSw); go_simp; all_goals (with_reducible rfl))
  try (simp only [Act.put, List.setIfInBounds_toArray, List.set_cons_zero, List.set_cons_succ])
  refine wpAnyH_ready (rs := [1]) ?hr1 ?hne1 ?h1
  case hr1 => kernel_rfl
  case hne1 => simp
  refine AllReadyH.cons (i := 1) (o := ?o1) ?ho1 (fun K hK => ?hc1) AllReadyH.nil
  case ho1 => (simp only [List.getElem?_toArray, List.getElem?_cons_zero, List.getElem?_cons_succ]; rfl)
  go_simp
  refine (va_Zig n _ hn).mono ?_
  rintro e w' ⟨rfl, rfl⟩
  go_wp2_with fail
  refine hK.out _ _ trivial (fun hHeld => ?_)
  clear hK K
  try (simp only [Act.put, List.setIfInBounds_toArray, List.set_cons_zero, List.set_cons_succ])
  refine wpAnyH_ready (rs := [3]) ?hr3 ?hne3 ?h3
  case hr3 => kernel_rfl
  case hne3 => simp
  refine AllReadyH.cons (i := 3) (o := ?o3) ?ho3 (fun K hK => ?hc3) AllReadyH.nil
  case ho3 => (simp only [List.getElem?_toArray, List.getElem?_cons_zero, List.getElem?_cons_succ]; rfl)
  go_simp
  refine (var_Zig n _ hn).mono ?_
  rintro e w' ⟨rfl, rfl⟩
  go_wp2_with fail
  refine hK.out _ _ trivial (fun hHeld => ?_)
  clear hK K
  try (simp only [Act.put, List.setIfInBounds_toArray, List.set_cons_zero, List.set_cons_succ])
  refine wpAnyH_take (i := 4) (oi := ?oi4) (v := ?v4) ?hi4 ?hs4 ?hf4 ?hr4 ?hQ4 ?hy4 (by assumption) ?h4
  case hi4 => (simp only [List.getElem?_toArray, List.getElem?_cons_zero, List.getElem?_cons_succ]; rfl)
  case hs4 => kernel_rfl
  case hf4 => kernel_rfl
  case hr4 => kernel_rfl
  case hQ4 => exact fun _ _ _ h => h
  case hy4 => (refine Or.inl ⟨by kernel_rfl, ?_⟩; intro w hSw; (try dsimp only at hSw); go_simp; all_goals (with_reducible rfl))
  try (simp only [Act.put, List.setIfInBounds_toArray, List.set_cons_zero, List.set_cons_succ])
  refine wpAnyH_take (i := 5) (oi := ?oi5) (v := ?v5) ?hi5 ?hs5 ?hf5 ?hr5 ?hQ5 ?hy5 (by assumption) ?h5
  case hi5 => (simp only [List.getElem?_toArray, List.getElem?_cons_zero, List.getElem?_cons_succ]; rfl)
  case hs5 => kernel_rfl
  case hf5 => kernel_rfl
  case hr5 => kernel_rfl
  case hQ5 => exact fun _ _ _ h => h
  case hy5 => (refine Or.inl ⟨by kernel_rfl, ?_⟩; intro w hSw; (try dsimp only at hSw); go_simp; all_goals (with_reducible rfl))
  try (simp only [Act.put, List.setIfInBounds_toArray, List.set_cons_zero, List.set_cons_succ])
  refine wpAnyH_take (i := 6) (oi := ?oi6) (v := ?v6) ?hi6 ?hs6 ?hf6 ?hr6 ?hQ6 ?hy6 (by assumption) ?h6
  case hi6 => (simp only [List.getElem?_toArray, List.getElem?_cons_zero, List.getElem?_cons_succ]; rfl)
  case hs6 => kernel_rfl
  case hf6 => kernel_rfl
  case hr6 => kernel_rfl
  case hQ6 => exact fun _ _ _ h => h
  case hy6 => (refine Or.inl ⟨by kernel_rfl, ?_⟩; intro w hSw; (try dsimp only at hSw); go_simp; all_goals (with_reducible rfl))
  try (simp only [Act.put, List.setIfInBounds_toArray, List.set_cons_zero, List.set_cons_succ])
  refine wpAnyH_take (i := 8) (oi := ?oi8) (v := ?v8) ?hi8 ?hs8 ?hf8 ?hr8 ?hQ8 ?hy8 (by assumption) ?h8
  case hi8 => (simp only [List.getElem?_toArray, List.getElem?_cons_zero, List.getElem?_cons_succ]; rfl)
  case hs8 => kernel_rfl
  case hf8 => kernel_rfl
  case hr8 => kernel_rfl
  case hQ8 => exact fun _ _ _ h => h
  case hy8 => (refine Or.inl ⟨by kernel_rfl, ?_⟩; intro w hSw; (try dsimp only at hSw); go_simp; all_goals (with_reducible rfl))
  try (simp only [Act.put, List.setIfInBounds_toArray, List.set_cons_zero, List.set_cons_succ])
  refine wpAnyH_ready (rs := [7]) ?hr7 ?hne7 ?h7
  case hr7 => kernel_rfl
  case hne7 => simp
  refine AllReadyH.cons (i := 7) (o := ?o7) ?ho7 (fun K hK => ?hc7) AllReadyH.nil
  case ho7 => (simp only [List.getElem?_toArray, List.getElem?_cons_zero, List.getElem?_cons_succ]; rfl)
  go_simp
  refine (va_Zag u _ hu).mono ?_
  rintro e w' ⟨rfl, rfl⟩
  go_wp2_with fail
  refine hK.out _ _ trivial (fun hHeld => ?_)
  clear hK K
  try (simp only [Act.put, List.setIfInBounds_toArray, List.set_cons_zero, List.set_cons_succ])
  refine wpAnyH_ready (rs := [9]) ?hr9 ?hne9 ?h9
  case hr9 => kernel_rfl
  case hne9 => simp
  refine AllReadyH.cons (i := 9) (o := ?o9) ?ho9 (fun K hK => ?hc9) AllReadyH.nil
  case ho9 => (simp only [List.getElem?_toArray, List.getElem?_cons_zero, List.getElem?_cons_succ]; rfl)
  go_simp
  refine (var_Zag u _ hu).mono ?_
  rintro e w' ⟨rfl, rfl⟩
  go_wp2_with fail
  refine hK.out _ _ trivial (fun hHeld => ?_)
  clear hK K
  try (simp only [Act.put, List.setIfInBounds_toArray, List.set_cons_zero, List.set_cons_succ])
  refine wpAnyH_take (i := 10) (oi := ?oi10) (v := ?v10) ?hi10 ?hs10 ?hf10 ?hr10 ?hQ10 ?hy10 (by assumption) ?h10
  case hi10 => (simp only [List.getElem?_toArray, List.getElem?_cons_zero, List.getElem?_cons_succ]; rfl)
  case hs10 => kernel_rfl
  case hf10 => kernel_rfl
  case hr10 => kernel_rfl
  case hQ10 => exact fun _ _ _ h => h
  case hy10 => (refine Or.inl ⟨by kernel_rfl, ?_⟩; intro w hSw; (try dsimp only at hSw); go_simp; all_goals (with_reducible rfl))
  try (simp only [Act.put, List.setIfInBounds_toArray, List.set_cons_zero, List.set_cons_succ])
  refine wpAnyH_take (i := 11) (oi := ?oi11) (v := ?v11) ?hi11 ?hs11 ?hf11 ?hr11 ?hQ11 ?hy11 (by assumption) ?h11
  case hi11 => (simp only [List.getElem?_toArray, List.getElem?_cons_zero, List.getElem?_cons_succ]; rfl)
  case hs11 => kernel_rfl
  case hf11 => kernel_rfl
  case hr11 => kernel_rfl
  case hQ11 => exact fun _ _ _ h => h
  case hy11 => (refine Or.inl ⟨by kernel_rfl, ?_⟩; intro w hSw; (try dsimp only at hSw); go_simp; all_goals (with_reducible rfl))
  try (simp only [Act.put, List.setIfInBounds_toArray, List.set_cons_zero, List.set_cons_succ])
  refine wpAnyH_take (i := 12) (oi := ?oi12) (v := ?v12) ?hi12 ?hs12 ?hf12 ?hr12 ?hQ12 ?hy12 (by assumption) ?h12
  case hi12 => (simp only [List.getElem?_toArray, List.getElem?_cons_zero, List.getElem?_cons_succ]; rfl)
  case hs12 => kernel_rfl
  case hf12 => kernel_rfl
  case hr12 => kernel_rfl
  case hQ12 => exact fun _ _ _ h => h
  case hy12 => (refine Or.inl ⟨by kernel_rfl, ?_⟩; intro w hSw; (try dsimp only at hSw); go_simp; all_goals (with_reducible rfl))
  try (simp only [Act.put, List.setIfInBounds_toArray, List.set_cons_zero, List.set_cons_succ])
  refine wpAnyH_take (i := 13) (oi := ?oi13) (v := ?v13) ?hi13 ?hs13 ?hf13 ?hr13 ?hQ13 ?hy13 (by assumption) ?h13
  case hi13 => (simp only [List.getElem?_toArray, List.getElem?_cons_zero, List.getElem?_cons_succ]; rfl)
  case hs13 => kernel_rfl
  case hf13 => kernel_rfl
  case hr13 => kernel_rfl
  case hQ13 => exact fun _ _ _ h => h
  case hy13 => (refine Or.inl ⟨by kernel_rfl, ?_⟩; intro w hSw; (try dsimp only at hSw); go_simp; all_goals (with_reducible rfl))
  try (simp only [Act.put, List.setIfInBounds_toArray, List.set_cons_zero, List.set_cons_succ])
  refine wpAnyH_take (i := 16) (oi := ?oi16) (v := ?v16) ?hi16 ?hs16 ?hf16 ?hr16 ?hQ16 ?hy16 (by assumption) ?h16
  case hi16 => (simp only [List.getElem?_toArray, List.getElem?_cons_zero, List.getElem?_cons_succ]; rfl)
  case hs16 => kernel_rfl
  case hf16 => kernel_rfl
  case hr16 => kernel_rfl
  case hQ16 => exact fun _ _ _ h => h
  case hy16 => (refine Or.inl ⟨by kernel_rfl, ?_⟩; intro w hSw; (try dsimp only at hSw); go_simp; all_goals (with_reducible rfl))
  try (simp only [Act.put, List.setIfInBounds_toArray, List.set_cons_zero, List.set_cons_succ])
  refine wpAnyH_ready (rs := [14]) ?hr14 ?hne14 ?h14
  case hr14 => kernel_rfl
  case hne14 => simp
  refine AllReadyH.cons (i := 14) (o := ?o14) ?ho14 (fun K hK => ?hc14) AllReadyH.nil
  case ho14 => (simp only [List.getElem?_toArray, List.getElem?_cons_zero, List.getElem?_cons_succ]; rfl)
  go_simp
  refine (va_Put u _ hu).mono ?_
  rintro e w1 ⟨A1, c1, rfl, r1, hc1, b1⟩
  go_wp2_with fail
  refine hK.out _ _ trivial (fun hHeld => ?_)
  clear hK K
  try (simp only [Act.put, List.setIfInBounds_toArray, List.set_cons_zero, List.set_cons_succ])
  refine wpAnyH_more (fun w' : World => (convert 22 9 (.slice A1 (putP u).length c1)).run Try.prog w' = .ok (.string (strOfNums (putP u))) w') (run_str r1 22 9 5 c1 Try.underlying22 Try.underlying5 Try.underlying9) hHeld (fun hHeld => ?_)
  refine wpAnyH_take (i := 15) (oi := ?oi15) (v := ?v15) ?hi15 ?hs15 ?hf15 ?hr15 ?hQ15 ?hy15 (by assumption) ?h15
  case hi15 => (simp only [List.getElem?_toArray, List.getElem?_cons_zero, List.getElem?_cons_succ]; rfl)
  case hs15 => kernel_rfl
  case hf15 => kernel_rfl
  case hr15 => kernel_rfl
  case hQ15 => exact fun _ _ _ h => h
  case hy15 => (refine Or.inl ⟨by kernel_rfl, ?_⟩; intro w hSw; (try dsimp only at hSw); go_simp; all_goals (with_reducible rfl))
  try (simp only [Act.put, List.setIfInBounds_toArray, List.set_cons_zero, List.set_cons_succ])
  refine wpAnyH_ready (rs := [17]) ?hr17 ?hne17 ?h17
  case hr17 => kernel_rfl
  case hne17 => simp
  refine AllReadyH.cons (i := 17) (o := ?o17) ?ho17 (fun K hK => ?hc17) AllReadyH.nil
  case ho17 => (simp only [List.getElem?_toArray, List.getElem?_cons_zero, List.getElem?_cons_succ]; rfl)
  go_simp
  refine (var_Put u _ hu).mono ?_
  rintro e w2 ⟨A2, c2, rfl, r2, hc2, b2⟩
  go_wp2_with fail
  refine hK.out _ _ ⟨trivial, (run_str ((r1.below b2).more b2.size) 22 9 5 c1 Try.underlying22 Try.underlying5 Try.underlying9)⟩ (fun hHeld => ?_)
  clear hK K
  try (simp only [Act.put, List.setIfInBounds_toArray, List.set_cons_zero, List.set_cons_succ])
  refine wpAnyH_more (fun w' : World => (convert 22 9 (.slice A2 (putP u).length c2)).run Try.prog w' = .ok (.string (strOfNums (putP u))) w') (run_str r2 22 9 5 c2 Try.underlying22 Try.underlying5 Try.underlying9) hHeld (fun hHeld => ?_)
  refine wpAnyH_take (i := 18) (oi := ?oi18) (v := ?v18) ?hi18 ?hs18 ?hf18 ?hr18 ?hQ18 ?hy18 (by assumption) ?h18
  case hi18 => (simp only [List.getElem?_toArray, List.getElem?_cons_zero, List.getElem?_cons_succ]; rfl)
  case hs18 => kernel_rfl
  case hf18 => kernel_rfl
  case hr18 => kernel_rfl
  case hQ18 => exact fun _ _ _ h => h
  case hy18 => (refine Or.inl ⟨by kernel_rfl, ?_⟩; intro w hSw; (try dsimp only at hSw); go_simp; all_goals (with_reducible rfl))
  try (simp only [Act.put, List.setIfInBounds_toArray, List.set_cons_zero, List.set_cons_succ])
  refine wpAnyH_take (i := 19) (oi := ?oi19) (v := ?v19) ?hi19 ?hs19 ?hf19 ?hr19 ?hQ19 ?hy19 (by assumption) ?h19
  case hi19 => (simp only [List.getElem?_toArray, List.getElem?_cons_zero, List.getElem?_cons_succ]; rfl)
  case hs19 => kernel_rfl
  case hf19 => kernel_rfl
  case hr19 => kernel_rfl
  case hQ19 => exact fun _ _ _ h => h
  case hy19 => (refine Or.inl ⟨by kernel_rfl, ?_⟩; intro w hSw; (try dsimp only at hSw); go_simp; all_goals (with_reducible rfl))
  try (simp only [Act.put, List.setIfInBounds_toArray, List.set_cons_zero, List.set_cons_succ])
  refine wpAnyH_take (i := 20) (oi := ?oi20) (v := ?v20) ?hi20 ?hs20 ?hf20 ?hr20 ?hQ20 ?hy20 (by assumption) ?h20
  case hi20 => (simp only [List.getElem?_toArray, List.getElem?_cons_zero, List.getElem?_cons_succ]; rfl)
  case hs20 => kernel_rfl
  case hf20 => kernel_rfl
  case hr20 => kernel_rfl
  case hQ20 => exact fun _ _ _ h => h
  case hy20 => (refine Or.inl ⟨by kernel_rfl, ?_⟩; intro w hSw; (try dsimp only at hSw); go_simp; all_goals (with_reducible rfl))
  try (simp only [Act.put, List.setIfInBounds_toArray, List.set_cons_zero, List.set_cons_succ])
  refine wpAnyH_take (i := 21) (oi := ?oi21) (v := ?v21) ?hi21 ?hs21 ?hf21 ?hr21 ?hQ21 ?hy21 (by assumption) ?h21
  case hi21 => (simp only [List.getElem?_toArray, List.getElem?_cons_zero, List.getElem?_cons_succ]; rfl)
  case hs21 => kernel_rfl
  case hf21 => kernel_rfl
  case hr21 => kernel_rfl
  case hQ21 => exact fun _ _ _ h => h
  case hy21 => (refine Or.inl ⟨by kernel_rfl, ?_⟩; intro w hSw; (try dsimp only at hSw); go_simp; all_goals (with_reducible rfl))
  try (simp only [Act.put, List.setIfInBounds_toArray, List.set_cons_zero, List.set_cons_succ])
  refine wpAnyH_take (i := 22) (oi := ?oi22) (v := ?v22) ?hi22 ?hs22 ?hf22 ?hr22 ?hQ22 ?hy22 (by assumption) ?h22
  case hi22 => (simp only [List.getElem?_toArray, List.getElem?_cons_zero, List.getElem?_cons_succ]; rfl)
  case hs22 => kernel_rfl
  case hf22 => kernel_rfl
  case hr22 => kernel_rfl
  case hQ22 => exact fun _ _ _ h => h
  case hy22 => (refine Or.inl ⟨by kernel_rfl, ?_⟩; intro w hSw; (try dsimp only at hSw); go_simp; all_goals (with_reducible rfl))
  try (simp only [Act.put, List.setIfInBounds_toArray, List.set_cons_zero, List.set_cons_succ])
  refine wpAnyH_take (i := 24) (oi := ?oi24) (v := ?v24) ?hi24 ?hs24 ?hf24 ?hr24 ?hQ24 ?hy24 (by assumption) ?h24
  case hi24 => (simp only [List.getElem?_toArray, List.getElem?_cons_zero, List.getElem?_cons_succ]; rfl)
  case hs24 => kernel_rfl
  case hf24 => kernel_rfl
  case hr24 => kernel_rfl
  case hQ24 => exact fun _ _ _ h => h
  case hy24 => (refine Or.inl ⟨by kernel_rfl, ?_⟩; intro w hSw; (try dsimp only at hSw); go_simp; all_goals (with_reducible rfl))
  try (simp only [Act.put, List.setIfInBounds_toArray, List.set_cons_zero, List.set_cons_succ])
  refine wpAnyH_ready (rs := [23]) ?hr23 ?hne23 ?h23
  case hr23 => kernel_rfl
  case hne23 => simp
  refine AllReadyH.cons (i := 23) (o := ?o23) ?ho23 (fun K hK => ?hc23) AllReadyH.nil
  case ho23 => (simp only [List.getElem?_toArray, List.getElem?_cons_zero, List.getElem?_cons_succ]; rfl)
  go_simp
  refine (va_Size u _ hu).mono ?_
  rintro e w' ⟨rfl, rfl⟩
  go_wp2_with fail
  refine hK.out _ _ ⟨⟨trivial, (run_str ((r1.below b2).more b2.size) 22 9 5 c1 Try.underlying22 Try.underlying5 Try.underlying9)⟩, (run_str r2 22 9 5 c2 Try.underlying22 Try.underlying5 Try.underlying9)⟩ (fun hHeld => ?_)
  clear hK K
  try (simp only [Act.put, List.setIfInBounds_toArray, List.set_cons_zero, List.set_cons_succ])
  refine wpAnyH_ready (rs := [25]) ?hr25 ?hne25 ?h25
  case hr25 => kernel_rfl
  case hne25 => simp
  refine AllReadyH.cons (i := 25) (o := ?o25) ?ho25 (fun K hK => ?hc25) AllReadyH.nil
  case ho25 => (simp only [List.getElem?_toArray, List.getElem?_cons_zero, List.getElem?_cons_succ]; rfl)
  go_simp
  refine (var_Put u _ hu).mono ?_
  rintro e w3 ⟨A3, c3, rfl, r3, hc3, b3⟩
  go_wp2_with fail
  refine hK.out _ _ ⟨⟨trivial, (run_str ((((r1.below b2).more b2.size).below b3).more b3.size) 22 9 5 c1 Try.underlying22 Try.underlying5 Try.underlying9)⟩, (run_str ((r2.below b3).more b3.size) 22 9 5 c2 Try.underlying22 Try.underlying5 Try.underlying9)⟩ (fun hHeld => ?_)
  clear hK K
  try (simp only [Act.put, List.setIfInBounds_toArray, List.set_cons_zero, List.set_cons_succ])
  refine wpAnyH_take (i := 26) (oi := ?oi26) (v := ?v26) ?hi26 ?hs26 ?hf26 ?hr26 ?hQ26 ?hy26 (by assumption) ?h26
  case hi26 => (simp only [List.getElem?_toArray, List.getElem?_cons_zero, List.getElem?_cons_succ]; rfl)
  case hs26 => kernel_rfl
  case hf26 => kernel_rfl
  case hr26 => kernel_rfl
  case hQ26 => exact fun _ _ _ h => h
  case hy26 => (refine Or.inl ⟨by kernel_rfl, ?_⟩; intro w hSw; (try dsimp only at hSw); go_simp; all_goals (with_reducible rfl))
  try (simp only [Act.put, List.setIfInBounds_toArray, List.set_cons_zero, List.set_cons_succ])
  refine wpAnyH_take (i := 27) (oi := ?oi27) (v := ?v27) ?hi27 ?hs27 ?hf27 ?hr27 ?hQ27 ?hy27 (by assumption) ?h27
  case hi27 => (simp only [List.getElem?_toArray, List.getElem?_cons_zero, List.getElem?_cons_succ]; rfl)
  case hs27 => kernel_rfl
  case hf27 => kernel_rfl
  case hr27 => kernel_rfl
  case hQ27 => exact fun _ _ _ h => h
  case hy27 => (refine Or.inl ⟨by kernel_rfl, ?_⟩; intro w hSw; (try dsimp only at hSw); go_simp; all_goals (with_reducible rfl))
  try (simp only [Act.put, List.setIfInBounds_toArray, List.set_cons_zero, List.set_cons_succ])
  refine wpAnyH_take (i := 28) (oi := ?oi28) (v := ?v28) ?hi28 ?hs28 ?hf28 ?hr28 ?hQ28 ?hy28 (by assumption) ?h28
  case hi28 => (simp only [List.getElem?_toArray, List.getElem?_cons_zero, List.getElem?_cons_succ]; rfl)
  case hs28 => kernel_rfl
  case hf28 => kernel_rfl
  case hr28 => kernel_rfl
  case hQ28 => exact fun _ _ _ h => h
  case hy28 => (refine Or.inl ⟨by kernel_rfl, ?_⟩; intro w hSw; (try dsimp only at hSw); go_simp; all_goals (with_reducible rfl))
  try (simp only [Act.put, List.setIfInBounds_toArray, List.set_cons_zero, List.set_cons_succ])
  refine wpAnyH_take (i := 29) (oi := ?oi29) (v := ?v29) ?hi29 ?hs29 ?hf29 ?hr29 ?hQ29 ?hy29 (by assumption) ?h29
  case hi29 => (simp only [List.getElem?_toArray, List.getElem?_cons_zero, List.getElem?_cons_succ]; rfl)
  case hs29 => kernel_rfl
  case hf29 => kernel_rfl
  case hr29 => kernel_rfl
  case hQ29 => exact fun _ _ _ h => h
  case hy29 => (refine Or.inl ⟨by kernel_rfl, ?_⟩; intro w hSw; (try dsimp only at hSw); go_simp; all_goals (with_reducible rfl))
  try (simp only [Act.put, List.setIfInBounds_toArray, List.set_cons_zero, List.set_cons_succ])
  refine wpAnyH_ready (rs := [30]) ?hr30 ?hne30 ?h30
  case hr30 => kernel_rfl
  case hne30 => simp
  refine AllReadyH.cons (i := 30) (o := ?o30) ?ho30 (fun K hK => ?hc30) AllReadyH.nil
  case ho30 => (simp only [List.getElem?_toArray, List.getElem?_cons_zero, List.getElem?_cons_succ]; rfl)
  go_simp
  refine (va_knows _).mono ?_
  rintro e w4 ⟨rfl, b4⟩
  go_wp2_with fail
  refine hK.out _ _ ⟨⟨trivial, (run_str ((((((r1.below b2).more b2.size).below b3).more b3.size).below b4).more b4.size) 22 9 5 c1 Try.underlying22 Try.underlying5 Try.underlying9)⟩, (run_str ((((r2.below b3).more b3.size).below b4).more b4.size) 22 9 5 c2 Try.underlying22 Try.underlying5 Try.underlying9)⟩ (fun hHeld => ?_)
  clear hK K
  try (simp only [Act.put, List.setIfInBounds_toArray, List.set_cons_zero, List.set_cons_succ])
  refine wpAnyH_take (i := 31) (oi := ?oi31) (v := ?v31) ?hi31 ?hs31 ?hf31 ?hr31 ?hQ31 ?hy31 (by assumption) ?h31
  case hi31 => (simp only [List.getElem?_toArray, List.getElem?_cons_zero, List.getElem?_cons_succ]; rfl)
  case hs31 => kernel_rfl
  case hf31 => kernel_rfl
  case hr31 => kernel_rfl
  case hQ31 => exact fun _ _ _ h => h
  case hy31 => (refine Or.inl ⟨by kernel_rfl, ?_⟩; intro w hSw; (try dsimp only at hSw); go_simp; all_goals (with_reducible rfl))
  try (simp only [Act.put, List.setIfInBounds_toArray, List.set_cons_zero, List.set_cons_succ])
  refine wpAnyH_take (i := 32) (oi := ?oi32) (v := ?v32) ?hi32 ?hs32 ?hf32 ?hr32 ?hQ32 ?hy32 (by assumption) ?h32
  case hi32 => (simp only [List.getElem?_toArray, List.getElem?_cons_zero, List.getElem?_cons_succ]; rfl)
  case hs32 => kernel_rfl
  case hf32 => kernel_rfl
  case hr32 => kernel_rfl
  case hQ32 => exact fun _ _ _ h => h
  case hy32 => (refine Or.inl ⟨by kernel_rfl, ?_⟩; intro w hSw; (try dsimp only at hSw); go_simp; all_goals (with_reducible rfl))
  try (simp only [Act.put, List.setIfInBounds_toArray, List.set_cons_zero, List.set_cons_succ])
  refine wpAnyH_done ?hr ?hq _
  case hr => kernel_rfl
  refine NoPanic.normal ?_
  go_wp2
  go_ret
  exact ⟨rfl, (((((Below.refl w.heap.size w).drew).trans b1).trans (b2.mono b1.size)).trans (b3.mono (Nat.le_trans b1.size b2.size))).trans (b4.mono (Nat.le_trans b1.size (Nat.le_trans b2.size b3.size)))⟩
end Go.Proofs.Ytmimnefjeidedaa
