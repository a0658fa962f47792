/- Chapter 06: both Opens by one word; the walk of FletchTells. -/
import Derived.Test.YtmimnefjeidedaaFletchC
import Derived.Test.YtmimnefjeidedaaHeld
import Derived.Test.YtmimnefjeidedaaFletchLaws
namespace Go.Proofs.Ytmimnefjeidedaa
open Go.RowKit
attribute [local go_sem ↓] Go.wp_at_zero Go.wp_at_succ

/-- Are some bytes the seal of others, and of which. -/
def openB (xs : List Int) : Bool := decide (2 ≤ xs.length ∧ sealP (xs.take (xs.length - 2)) = xs)
def openP (xs : List Int) : List Int := if openB xs = true then xs.take (xs.length - 2) else []
theorem seal_iff (m : Nat) (xs : List Int) (h : xs.length = m + 2) : sealP (xs.take m) = xs ↔ (xs[m]?.getD 0 = sumP (xs.take m) % 256 ∧ xs[m + 1]?.getD 0 = twoP (xs.take m) % 256) := by
  have e : xs = xs.take m ++ [xs[m]?.getD 0, xs[m + 1]?.getD 0] := by
    have h1 := take_snoc xs m (by omega)
    have h2 := take_snoc xs (m + 1) (by omega)
    have h3 : xs.take (m + 1 + 1) = xs := List.take_of_length_le (by omega)
    rw [h3, h1] at h2
    simpa using h2
  constructor
  · intro hs
    unfold sealP at hs
    have h4 : xs.take m ++ [sumP (xs.take m) % 256, twoP (xs.take m) % 256] = xs.take m ++ [xs[m]?.getD 0, xs[m + 1]?.getD 0] := hs.trans e
    have h5 := List.append_cancel_left h4
    simp at h5
    exact ⟨h5.1.symm, h5.2.symm⟩
  · rintro ⟨h1, h2⟩
    rw [h1, h2] at e
    exact e.symm
theorem openB_short {xs : List Int} (h : xs.length < 2) : openB xs = false := by unfold openB; simp; omega
theorem openB_is {m : Nat} {xs : List Int} (h : xs.length = m + 2) : openB xs = decide (sealP (xs.take m) = xs) := by
  unfold openB
  have : xs.length - 2 = m := by omega
  rw [this]
  simp [h]
theorem openP_yes {m : Nat} {xs : List Int} (h : xs.length = m + 2) (hb : openB xs = true) : openP xs = xs.take m := by
  unfold openP
  have : xs.length - 2 = m := by omega
  rw [this, if_pos hb]
theorem openP_no {xs : List Int} (hb : openB xs = false) : openP xs = [] := by unfold openP; simp [hb]
/-- What both say of some bytes. -/
def Opens (w : World) (xs : List Int) (e : Ending) (w' : World) : Prop := ∃ A' c', e = .returned (.tuple #[.slice A' (openP xs).length c', .bool (openB xs)]) ∧ Row .u8 w' w'.heap.size A' (openP xs).length (openP xs) ∧ Below w.heap.size w w'
theorem opens_no {w w' : World} {xs : List Int} {e : Ending} (hb : openB xs = false) (he : e = .returned (.tuple #[.slice none 0 0, .bool false])) (hw : Below w.heap.size w w') : Opens w xs e w' :=
  ⟨none, 0, by rw [openP_no hb, hb]; exact he, by rw [openP_no hb]; exact Row.none_, hw⟩
theorem opens_yes {w w' : World} {xs : List Int} {e : Ending} {m : Nat} {A' : Option Addr} {c' : Nat} (h : xs.length = m + 2) (hb : openB xs = true) (he : e = .returned (.tuple #[.slice A' m c', .bool true])) (hr : Row .u8 w' w'.heap.size A' m (xs.take m)) (hw : Below w.heap.size w w') : Opens w xs e w' := by
  have hl : (xs.take m).length = m := by simp; omega
  exact ⟨A', c', by rw [openP_yes h hb, hb, hl]; exact he, by rw [openP_yes h hb, hl]; exact hr, hw⟩

theorem fl_Open (A : Option Addr) (n cap : Nat) (xs : List Int) (w : World) (h : Row .u8 w w.heap.size A n xs) (hn : n ≤ 100000) (hc : n ≤ cap) :
    Calls Try.prog 28 #[.slice A n cap] w (Opens w xs) := by
  by_cases g : n < 2
  · exact (fl_Open_short A n cap w g).mono fun e w' ⟨he, hw⟩ => opens_no (openB_short (by rw [h.1]; exact g)) he (by rw [← hw]; exact Below.refl _ _)
  obtain ⟨m, rfl⟩ : ∃ m, n = m + 2 := ⟨n - 2, by omega⟩
  by_cases hs : sealP (xs.take m) = xs
  · have hi := (seal_iff m xs h.1).1 hs
    exact (fl_Open_yes A m cap xs w h (by omega) hc hi.1 hi.2).mono fun e w' ⟨A', c', he, hr, hb⟩ => opens_yes h.1 (by rw [openB_is h.1]; simpa using hs) he hr hb
  · have hi := mt (seal_iff m xs h.1).2 hs
    exact (fl_Open_no A m cap xs w h (by omega) hc hi).mono fun e w' ⟨he, hb⟩ => opens_no (by rw [openB_is h.1]; simpa using hs) he hb
theorem flr_OpenAll (A : Option Addr) (n cap : Nat) (xs : List Int) (w : World) (h : Row .u8 w w.heap.size A n xs) (hx : Bytes xs) (hn : n ≤ 100000) (hc : n ≤ cap) :
    Calls Try.prog 29 #[.slice A n cap] w (Opens w xs) := by
  by_cases g : n < 2
  · exact (flr_Open_short A n cap w g).mono fun e w' ⟨he, hw⟩ => opens_no (openB_short (by rw [h.1]; exact g)) he hw
  obtain ⟨m, rfl⟩ : ∃ m, n = m + 2 := ⟨n - 2, by omega⟩
  by_cases hs : sealP (xs.take m) = xs
  · exact (flr_Open A m cap xs w h (by omega) hc hs).mono fun e w' ⟨A', c', he, hr, hb⟩ => opens_yes h.1 (by rw [openB_is h.1]; simpa using hs) he hr hb
  · exact (flr_Open_no A m cap xs w h (by omega) hc hx hs).mono fun e w' ⟨he, hb⟩ => opens_no (by rw [openB_is h.1]; simpa using hs) he hb

set_option linter.unusedSimpArgs false in
set_option maxHeartbeats 8000000 in
theorem fletchTells_walk (a b : Int) (A : Option Addr) (n c : Nat) (xs : List Int) (w : World) (_ha : (Lit.int .u8 a).wf = true) (_hb : (Lit.int .u8 b).wf = true) (h : In .u8 w A n c xs) :
    Calls Try.prog 5 #[.int .u8 a, .int .u8 b, .slice A n c] w fun e w' => e = .returned (.bool true) ∧ Below w.heap.size w w' := by
  obtain ⟨hr, hm, hcap, hw⟩ := h
  unfold maxLen at hm
  by_cases g1 : 2000 < n
  · go_enter Try.func5, Try.ntmps5
    go_wp2_with (go_at_call 15; refine (fl_knows _).mono ?_; rintro e w' ⟨rfl, hb⟩)
    go_ret
    exact ⟨rfl, hb⟩
  have d1 : decide ((2000 : Int) < n) = false := by simp; omega
  have HB := hid (bytes_of hw)
  clear hw
  go_enter Try.func5, Try.ntmps5
  go_wp2_with fail
  refine (fl_knows _).mono ?_
  rintro e w1 ⟨rfl, b1⟩
  go_wp2_with fail
  have r1 := (hr.below b1).more b1.size
  refine (fl_More a b A n c xs _ r1 (by omega)).mono ?_
  rintro e w2 ⟨rfl, b2⟩
  have b2' := b1.trans (b2.mono b1.size)
  go_wp2_with fail
  refine (flr_More a b A n c xs _ ((hr.below b2').more b2'.size) (by omega)).mono ?_
  rintro e w2 ⟨rfl, rfl⟩
  go_wp2_with fail
  refine (fl_Of A n c xs _ ((hr.below b2').more b2'.size) (by omega)).mono ?_
  rintro e w3 ⟨rfl, b3⟩
  have b3' := b2'.trans (b3.mono b2'.size)
  go_wp2_with fail
  refine (flr_Of A n c xs _ ((hr.below b3').more b3'.size) (by omega)).mono ?_
  rintro e w3 ⟨rfl, rfl⟩
  go_wp2_with fail
  refine (fl_Open A n c xs _ ((hr.below b3').more b3'.size) (by omega) hcap).mono ?_
  rintro e w4 ⟨A4, c4, rfl, hr4, b4⟩
  have b4' := b3'.trans (b4.mono b3'.size)
  go_wp2_with fail
  refine (flr_OpenAll A n c xs _ ((hr.below b4').more b4'.size) HB.out (by omega) hcap).mono ?_
  rintro e w5 ⟨A5, c5, rfl, hr5, b5⟩
  have b5' := b4'.trans (b5.mono b4'.size)
  have hr4a := (hr4.below b5).more b5.size
  have hx := (hr.below b5').more b5'.size
  clear b1 b2 b3 b4 b5 b2' b3' b4' r1 hr4 hr
  go_wp2_with fail
  refine wp_region_noPanic ?_
  refine wp_region_held_drew (S := fun _ => True) (by kernel_rfl) trivial (fun hHeld => ?_)
  refine (show wpAnyH _ _ _ _ _ 40 _ _ _ from ?_)
  try (simp only [Act.put, List.setIfInBounds_toArray, List.set_cons_zero, List.set_cons_succ])
  refine wpAnyH_take (i := 0) (oi := ?oi0) (v := ?v0) ?hi0 ?hs0 ?hf0 ?hr0 ?hQ0 ?hy0 (by assumption) ?h0
  case hi0 => (simp only [List.getElem?_toArray, List.getElem?_cons_zero, List.getElem?_cons_succ]; rfl)
  case hs0 => kernel_rfl
  case hf0 => kernel_rfl
  case hr0 => kernel_rfl
  case hQ0 => exact fun _ _ _ h => h
  case hy0 => (refine Or.inl ⟨by kernel_rfl, ?_⟩; intro w hSw; (try dsimp only at hSw); go_simp; all_goals (with_reducible rfl))
  try (simp only [Act.put, List.setIfInBounds_toArray, List.set_cons_zero, List.set_cons_succ])
  refine wpAnyH_take (i := 1) (oi := ?oi1) (v := ?v1) ?hi1 ?hs1 ?hf1 ?hr1 ?hQ1 ?hy1 (by assumption) ?h1
  case hi1 => (simp only [List.getElem?_toArray, List.getElem?_cons_zero, List.getElem?_cons_succ]; rfl)
  case hs1 => kernel_rfl
  case hf1 => kernel_rfl
  case hr1 => kernel_rfl
  case hQ1 => exact fun _ _ _ h => h
  case hy1 => (refine Or.inl ⟨by kernel_rfl, ?_⟩; intro w hSw; (try dsimp only at hSw); go_simp; all_goals (with_reducible rfl))
  try (simp only [Act.put, List.setIfInBounds_toArray, List.set_cons_zero, List.set_cons_succ])
  refine wpAnyH_take (i := 2) (oi := ?oi2) (v := ?v2) ?hi2 ?hs2 ?hf2 ?hr2 ?hQ2 ?hy2 (by assumption) ?h2
  case hi2 => (simp only [List.getElem?_toArray, List.getElem?_cons_zero, List.getElem?_cons_succ]; rfl)
  case hs2 => kernel_rfl
  case hf2 => kernel_rfl
  case hr2 => kernel_rfl
  case hQ2 => exact fun _ _ _ h => h
  case hy2 => (refine Or.inl ⟨by kernel_rfl, ?_⟩; intro w hSw; (try dsimp only at hSw); go_simp; all_goals (with_reducible rfl))
  try (simp only [Act.put, List.setIfInBounds_toArray, List.set_cons_zero, List.set_cons_succ])
  refine wpAnyH_take (i := 3) (oi := ?oi3) (v := ?v3) ?hi3 ?hs3 ?hf3 ?hr3 ?hQ3 ?hy3 (by assumption) ?h3
  case hi3 => (simp only [List.getElem?_toArray, List.getElem?_cons_zero, List.getElem?_cons_succ]; rfl)
  case hs3 => kernel_rfl
  case hf3 => kernel_rfl
  case hr3 => kernel_rfl
  case hQ3 => exact fun _ _ _ h => h
  case hy3 => (refine Or.inl ⟨by kernel_rfl, ?_⟩; intro w hSw; (try dsimp only at hSw); go_simp; all_goals (with_reducible rfl))
  try (simp only [Act.put, List.setIfInBounds_toArray, List.set_cons_zero, List.set_cons_succ])
  refine wpAnyH_take (i := 4) (oi := ?oi4) (v := ?v4) ?hi4 ?hs4 ?hf4 ?hr4 ?hQ4 ?hy4 (by assumption) ?h4
  case hi4 => (simp only [List.getElem?_toArray, List.getElem?_cons_zero, List.getElem?_cons_succ]; rfl)
  case hs4 => kernel_rfl
  case hf4 => kernel_rfl
  case hr4 => kernel_rfl
  case hQ4 => exact fun _ _ _ h => h
  case hy4 => (refine Or.inl ⟨by kernel_rfl, ?_⟩; intro w hSw; (try dsimp only at hSw); go_simp; all_goals (with_reducible rfl))
  try (simp only [Act.put, List.setIfInBounds_toArray, List.set_cons_zero, List.set_cons_succ])
  refine wpAnyH_take (i := 5) (oi := ?oi5) (v := ?v5) ?hi5 ?hs5 ?hf5 ?hr5 ?hQ5 ?hy5 (by assumption) ?h5
  case hi5 => (simp only [List.getElem?_toArray, List.getElem?_cons_zero, List.getElem?_cons_succ]; rfl)
  case hs5 => kernel_rfl
  case hf5 => kernel_rfl
  case hr5 => kernel_rfl
  case hQ5 => exact fun _ _ _ h => h
  case hy5 => (refine Or.inl ⟨by kernel_rfl, ?_⟩; intro w hSw; (try dsimp only at hSw); go_simp; all_goals (with_reducible rfl))
  try (simp only [Act.put, List.setIfInBounds_toArray, List.set_cons_zero, List.set_cons_succ])
  refine wpAnyH_take (i := 6) (oi := ?oi6) (v := ?v6) ?hi6 ?hs6 ?hf6 ?hr6 ?hQ6 ?hy6 (by assumption) ?h6
  case hi6 => (simp only [List.getElem?_toArray, List.getElem?_cons_zero, List.getElem?_cons_succ]; rfl)
  case hs6 => kernel_rfl
  case hf6 => kernel_rfl
  case hr6 => kernel_rfl
  case hQ6 => exact fun _ _ _ h => h
  case hy6 => (refine Or.inl ⟨by kernel_rfl, ?_⟩; intro w hSw; (try dsimp only at hSw); go_simp; all_goals (with_reducible rfl))
  try (simp only [Act.put, List.setIfInBounds_toArray, List.set_cons_zero, List.set_cons_succ])
  refine wpAnyH_take (i := 7) (oi := ?oi7) (v := ?v7) ?hi7 ?hs7 ?hf7 ?hr7 ?hQ7 ?hy7 (by assumption) ?h7
  case hi7 => (simp only [List.getElem?_toArray, List.getElem?_cons_zero, List.getElem?_cons_succ]; rfl)
  case hs7 => kernel_rfl
  case hf7 => kernel_rfl
  case hr7 => kernel_rfl
  case hQ7 => exact fun _ _ _ h => h
  case hy7 => (refine Or.inl ⟨by kernel_rfl, ?_⟩; intro w hSw; (try dsimp only at hSw); go_simp; all_goals (with_reducible rfl))
  try (simp only [Act.put, List.setIfInBounds_toArray, List.set_cons_zero, List.set_cons_succ])
  refine wpAnyH_take (i := 8) (oi := ?oi8) (v := ?v8) ?hi8 ?hs8 ?hf8 ?hr8 ?hQ8 ?hy8 (by assumption) ?h8
  case hi8 => (simp only [List.getElem?_toArray, List.getElem?_cons_zero, List.getElem?_cons_succ]; rfl)
  case hs8 => kernel_rfl
  case hf8 => kernel_rfl
  case hr8 => kernel_rfl
  case hQ8 => exact fun _ _ _ h => h
  case hy8 => (refine Or.inl ⟨by kernel_rfl, ?_⟩; intro w hSw; (try dsimp only at hSw); go_simp; all_goals (with_reducible rfl))
  try (simp only [Act.put, List.setIfInBounds_toArray, List.set_cons_zero, List.set_cons_succ])
  refine wpAnyH_take (i := 9) (oi := ?oi9) (v := ?v9) ?hi9 ?hs9 ?hf9 ?hr9 ?hQ9 ?hy9 (by assumption) ?h9
  case hi9 => (simp only [List.getElem?_toArray, List.getElem?_cons_zero, List.getElem?_cons_succ]; rfl)
  case hs9 => kernel_rfl
  case hf9 => kernel_rfl
  case hr9 => kernel_rfl
  case hQ9 => exact fun _ _ _ h => h
  case hy9 => (refine Or.inl ⟨by kernel_rfl, ?_⟩; intro w hSw; (try dsimp only at hSw); go_simp; all_goals (with_reducible rfl))
  try (simp only [Act.put, List.setIfInBounds_toArray, List.set_cons_zero, List.set_cons_succ])
  refine wpAnyH_take (i := 10) (oi := ?oi10) (v := ?v10) ?hi10 ?hs10 ?hf10 ?hr10 ?hQ10 ?hy10 (by assumption) ?h10
  case hi10 => (simp only [List.getElem?_toArray, List.getElem?_cons_zero, List.getElem?_cons_succ]; rfl)
  case hs10 => kernel_rfl
  case hf10 => kernel_rfl
  case hr10 => kernel_rfl
  case hQ10 => exact fun _ _ _ h => h
  case hy10 => (refine Or.inl ⟨by kernel_rfl, ?_⟩; intro w hSw; (try dsimp only at hSw); go_simp; all_goals (with_reducible rfl))
  try (simp only [Act.put, List.setIfInBounds_toArray, List.set_cons_zero, List.set_cons_succ])
  refine wpAnyH_take (i := 11) (oi := ?oi11) (v := ?v11) ?hi11 ?hs11 ?hf11 ?hr11 ?hQ11 ?hy11 (by assumption) ?h11
  case hi11 => (simp only [List.getElem?_toArray, List.getElem?_cons_zero, List.getElem?_cons_succ]; rfl)
  case hs11 => kernel_rfl
  case hf11 => kernel_rfl
  case hr11 => kernel_rfl
  case hQ11 => exact fun _ _ _ h => h
  case hy11 => (refine Or.inl ⟨by kernel_rfl, ?_⟩; intro w hSw; (try dsimp only at hSw); go_simp; all_goals (with_reducible rfl))
  try (simp only [Act.put, List.setIfInBounds_toArray, List.set_cons_zero, List.set_cons_succ])
  refine wpAnyH_take (i := 12) (oi := ?oi12) (v := ?v12) ?hi12 ?hs12 ?hf12 ?hr12 ?hQ12 ?hy12 (by assumption) ?h12
  case hi12 => (simp only [List.getElem?_toArray, List.getElem?_cons_zero, List.getElem?_cons_succ]; rfl)
  case hs12 => kernel_rfl
  case hf12 => kernel_rfl
  case hr12 => kernel_rfl
  case hQ12 => exact fun _ _ _ h => h
  case hy12 => (refine Or.inl ⟨by kernel_rfl, ?_⟩; intro w hSw; (try dsimp only at hSw); go_simp; all_goals (with_reducible rfl))
  try (simp only [Act.put, List.setIfInBounds_toArray, List.set_cons_zero, List.set_cons_succ])
  refine wpAnyH_take (i := 13) (oi := ?oi13) (v := ?v13) ?hi13 ?hs13 ?hf13 ?hr13 ?hQ13 ?hy13 (by assumption) ?h13
  case hi13 => (simp only [List.getElem?_toArray, List.getElem?_cons_zero, List.getElem?_cons_succ]; rfl)
  case hs13 => kernel_rfl
  case hf13 => kernel_rfl
  case hr13 => kernel_rfl
  case hQ13 => exact fun _ _ _ h => h
  case hy13 => (refine Or.inl ⟨by kernel_rfl, ?_⟩; intro w hSw; (try dsimp only at hSw); go_simp; all_goals (with_reducible rfl))
  try (simp only [Act.put, List.setIfInBounds_toArray, List.set_cons_zero, List.set_cons_succ])
  refine wpAnyH_take (i := 14) (oi := ?oi14) (v := ?v14) ?hi14 ?hs14 ?hf14 ?hr14 ?hQ14 ?hy14 (by assumption) ?h14
  case hi14 => (simp only [List.getElem?_toArray, List.getElem?_cons_zero, List.getElem?_cons_succ]; rfl)
  case hs14 => kernel_rfl
  case hf14 => kernel_rfl
  case hr14 => kernel_rfl
  case hQ14 => exact fun _ _ _ h => h
  case hy14 => (refine Or.inl ⟨by kernel_rfl, ?_⟩; intro w hSw; (try dsimp only at hSw); go_simp; all_goals (with_reducible rfl))
  try (simp only [Act.put, List.setIfInBounds_toArray, List.set_cons_zero, List.set_cons_succ])
  refine wpAnyH_take (i := 15) (oi := ?oi15) (v := ?v15) ?hi15 ?hs15 ?hf15 ?hr15 ?hQ15 ?hy15 (by assumption) ?h15
  case hi15 => (simp only [List.getElem?_toArray, List.getElem?_cons_zero, List.getElem?_cons_succ]; rfl)
  case hs15 => kernel_rfl
  case hf15 => kernel_rfl
  case hr15 => kernel_rfl
  case hQ15 => exact fun _ _ _ h => h
  case hy15 => (refine Or.inl ⟨by kernel_rfl, ?_⟩; intro w hSw; (try dsimp only at hSw); go_simp; all_goals (with_reducible rfl))
  try (simp only [Act.put, List.setIfInBounds_toArray, List.set_cons_zero, List.set_cons_succ])
  refine wpAnyH_take (i := 16) (oi := ?oi16) (v := ?v16) ?hi16 ?hs16 ?hf16 ?hr16 ?hQ16 ?hy16 (by assumption) ?h16
  case hi16 => (simp only [List.getElem?_toArray, List.getElem?_cons_zero, List.getElem?_cons_succ]; rfl)
  case hs16 => kernel_rfl
  case hf16 => kernel_rfl
  case hr16 => kernel_rfl
  case hQ16 => exact fun _ _ _ h => h
  case hy16 => (refine Or.inl ⟨by kernel_rfl, ?_⟩; intro w hSw; (try dsimp only at hSw); go_simp; all_goals (with_reducible rfl))
  try (simp only [Act.put, List.setIfInBounds_toArray, List.set_cons_zero, List.set_cons_succ])
  refine wpAnyH_take (i := 17) (oi := ?oi17) (v := ?v17) ?hi17 ?hs17 ?hf17 ?hr17 ?hQ17 ?hy17 (by assumption) ?h17
  case hi17 => (simp only [List.getElem?_toArray, List.getElem?_cons_zero, List.getElem?_cons_succ]; rfl)
  case hs17 => kernel_rfl
  case hf17 => kernel_rfl
  case hr17 => kernel_rfl
  case hQ17 => exact fun _ _ _ h => h
  case hy17 => (refine Or.inl ⟨by kernel_rfl, ?_⟩; intro w hSw; (try dsimp only at hSw); go_simp; all_goals (with_reducible rfl))
  try (simp only [Act.put, List.setIfInBounds_toArray, List.set_cons_zero, List.set_cons_succ])
  refine wpAnyH_take (i := 18) (oi := ?oi18) (v := ?v18) ?hi18 ?hs18 ?hf18 ?hr18 ?hQ18 ?hy18 (by assumption) ?h18
  case hi18 => (simp only [List.getElem?_toArray, List.getElem?_cons_zero, List.getElem?_cons_succ]; rfl)
  case hs18 => kernel_rfl
  case hf18 => kernel_rfl
  case hr18 => kernel_rfl
  case hQ18 => exact fun _ _ _ h => h
  case hy18 => (refine Or.inl ⟨by kernel_rfl, ?_⟩; intro w hSw; (try dsimp only at hSw); go_simp; all_goals (with_reducible rfl))
  try (simp only [Act.put, List.setIfInBounds_toArray, List.set_cons_zero, List.set_cons_succ])
  refine wpAnyH_take (i := 19) (oi := ?oi19) (v := ?v19) ?hi19 ?hs19 ?hf19 ?hr19 ?hQ19 ?hy19 (by assumption) ?h19
  case hi19 => (simp only [List.getElem?_toArray, List.getElem?_cons_zero, List.getElem?_cons_succ]; rfl)
  case hs19 => kernel_rfl
  case hf19 => kernel_rfl
  case hr19 => kernel_rfl
  case hQ19 => exact fun _ _ _ h => h
  case hy19 => (refine Or.inl ⟨by kernel_rfl, ?_⟩; intro w hSw; (try dsimp only at hSw); go_simp; all_goals (with_reducible rfl))
  try (simp only [Act.put, List.setIfInBounds_toArray, List.set_cons_zero, List.set_cons_succ])
  refine wpAnyH_take (i := 22) (oi := ?oi22) (v := ?v22) ?hi22 ?hs22 ?hf22 ?hr22 ?hQ22 ?hy22 (by assumption) ?h22
  case hi22 => (simp only [List.getElem?_toArray, List.getElem?_cons_zero, List.getElem?_cons_succ]; rfl)
  case hs22 => kernel_rfl
  case hf22 => kernel_rfl
  case hr22 => kernel_rfl
  case hQ22 => exact fun _ _ _ h => h
  case hy22 => (refine Or.inl ⟨by kernel_rfl, ?_⟩; intro w hSw; (try dsimp only at hSw); go_simp; all_goals (with_reducible rfl))
  try (simp only [Act.put, List.setIfInBounds_toArray, List.set_cons_zero, List.set_cons_succ])
  refine wpAnyH_ready (rs := [20]) ?hr20 ?hne20 ?h20
  case hr20 => kernel_rfl
  case hne20 => simp
  refine AllReadyH.cons (i := 20) (o := ?o20) ?ho20 (fun K hK => ?hc20) AllReadyH.nil
  case ho20 => (simp only [List.getElem?_toArray, List.getElem?_cons_zero, List.getElem?_cons_succ]; rfl)
  go_simp
  refine (fl_Seal _ _ _ xs _ (by exact hx.drew) (by omega)).mono ?_
  rintro e w6 ⟨A6, c6, rfl, hr6, hc6, b6⟩
  go_wp2_with fail
  refine hK.out _ _ trivial (fun hHeld => ?_)
  clear hK K
  try (simp only [Act.put, List.setIfInBounds_toArray, List.set_cons_zero, List.set_cons_succ])
  refine wpAnyH_more (fun w' : World => (convert 22 9 (.slice A6 (n + 2) c6)).run Try.prog w' = .ok (.string (strOfNums (sealP xs))) w') (run_str hr6 22 9 5 c6 Try.underlying22 Try.underlying5 Try.underlying9) hHeld (fun hHeld2 => ?_)
  refine wpAnyH_take (i := 21) (oi := ?oi21) (v := ?v21) ?hi21 ?hs21 ?hf21 ?hr21 ?hQ21 ?hy21 (by assumption) ?h21
  case hi21 => (simp only [List.getElem?_toArray, List.getElem?_cons_zero, List.getElem?_cons_succ]; rfl)
  case hs21 => kernel_rfl
  case hf21 => kernel_rfl
  case hr21 => kernel_rfl
  case hQ21 => exact fun _ _ _ h => h
  case hy21 => (refine Or.inl ⟨by kernel_rfl, ?_⟩; intro w hSw; (try dsimp only at hSw); go_simp; all_goals (with_reducible rfl))
  try (simp only [Act.put, List.setIfInBounds_toArray, List.set_cons_zero, List.set_cons_succ])
  refine wpAnyH_ready (rs := [23]) ?hr23 ?hne23 ?h23
  case hr23 => kernel_rfl
  case hne23 => simp
  refine AllReadyH.cons (i := 23) (o := ?o23) ?ho23 (fun K hK => ?hc23) AllReadyH.nil
  case ho23 => (simp only [List.getElem?_toArray, List.getElem?_cons_zero, List.getElem?_cons_succ]; rfl)
  go_simp
  refine (flr_Seal _ _ _ xs _ (by exact (hx.drew.below b6).more b6.size) (by omega)).mono ?_
  rintro e w7 ⟨A7, c7, rfl, hr7, hc7, b7⟩
  go_wp2_with fail
  refine hK.out _ _ ⟨trivial, (run_str (hr6.below b7) 22 9 5 c6 Try.underlying22 Try.underlying5 Try.underlying9)⟩ (fun hHeld => ?_)
  clear hK K
  try (simp only [Act.put, List.setIfInBounds_toArray, List.set_cons_zero, List.set_cons_succ])
  refine wpAnyH_more (fun w' : World => (convert 22 9 (.slice A7 (n + 2) c7)).run Try.prog w' = .ok (.string (strOfNums (sealP xs))) w') (run_str hr7 22 9 5 c7 Try.underlying22 Try.underlying5 Try.underlying9) hHeld (fun hHeld3 => ?_)
  refine wpAnyH_more (fun w' : World => (convert 22 9 (.slice A4 (openP xs).length c4)).run Try.prog w' = .ok (.string (strOfNums (openP xs))) w') (run_str (((hr4a.drew.below b6).more b6.size).below b7) 22 9 5 c4 Try.underlying22 Try.underlying5 Try.underlying9) hHeld3 (fun hHeld4 => ?_)
  refine wpAnyH_more (fun w' : World => (convert 22 9 (.slice A5 (openP xs).length c5)).run Try.prog w' = .ok (.string (strOfNums (openP xs))) w') (run_str (((hr5.drew.below b6).more b6.size).below b7) 22 9 5 c5 Try.underlying22 Try.underlying5 Try.underlying9) hHeld4 (fun hHeld5 => ?_)
  refine wpAnyH_take (i := 24) (oi := ?oi24) (v := ?v24) ?hi24 ?hs24 ?hf24 ?hr24 ?hQ24 ?hy24 (by assumption) ?h24
  case hi24 => (simp only [List.getElem?_toArray, List.getElem?_cons_zero, List.getElem?_cons_succ]; rfl)
  case hs24 => kernel_rfl
  case hf24 => kernel_rfl
  case hr24 => kernel_rfl
  case hQ24 => exact fun _ _ _ h => h
  case hy24 => (refine Or.inl ⟨by kernel_rfl, ?_⟩; intro w hSw; (try dsimp only at hSw); go_simp; all_goals (with_reducible rfl))
  try (simp only [Act.put, List.setIfInBounds_toArray, List.set_cons_zero, List.set_cons_succ])
  refine wpAnyH_take (i := 25) (oi := ?oi25) (v := ?v25) ?hi25 ?hs25 ?hf25 ?hr25 ?hQ25 ?hy25 (by assumption) ?h25
  case hi25 => (simp only [List.getElem?_toArray, List.getElem?_cons_zero, List.getElem?_cons_succ]; rfl)
  case hs25 => kernel_rfl
  case hf25 => kernel_rfl
  case hr25 => kernel_rfl
  case hQ25 => exact fun _ _ _ h => h
  case hy25 => (refine Or.inl ⟨by kernel_rfl, ?_⟩; intro w hSw; (try dsimp only at hSw); go_simp; all_goals (with_reducible rfl))
  try (simp only [Act.put, List.setIfInBounds_toArray, List.set_cons_zero, List.set_cons_succ])
  refine wpAnyH_take (i := 26) (oi := ?oi26) (v := ?v26) ?hi26 ?hs26 ?hf26 ?hr26 ?hQ26 ?hy26 (by assumption) ?h26
  case hi26 => (simp only [List.getElem?_toArray, List.getElem?_cons_zero, List.getElem?_cons_succ]; rfl)
  case hs26 => kernel_rfl
  case hf26 => kernel_rfl
  case hr26 => kernel_rfl
  case hQ26 => exact fun _ _ _ h => h
  case hy26 => (refine Or.inl ⟨by kernel_rfl, ?_⟩; intro w hSw; (try dsimp only at hSw); go_simp; all_goals (with_reducible rfl))
  try (simp only [Act.put, List.setIfInBounds_toArray, List.set_cons_zero, List.set_cons_succ])
  refine wpAnyH_take (i := 27) (oi := ?oi27) (v := ?v27) ?hi27 ?hs27 ?hf27 ?hr27 ?hQ27 ?hy27 (by assumption) ?h27
  case hi27 => (simp only [List.getElem?_toArray, List.getElem?_cons_zero, List.getElem?_cons_succ]; rfl)
  case hs27 => kernel_rfl
  case hf27 => kernel_rfl
  case hr27 => kernel_rfl
  case hQ27 => exact fun _ _ _ h => h
  case hy27 => (refine Or.inl ⟨by kernel_rfl, ?_⟩; intro w hSw; (try dsimp only at hSw); go_simp; all_goals (with_reducible rfl))
  try (simp only [Act.put, List.setIfInBounds_toArray, List.set_cons_zero, List.set_cons_succ])
  refine wpAnyH_take (i := 28) (oi := ?oi28) (v := ?v28) ?hi28 ?hs28 ?hf28 ?hr28 ?hQ28 ?hy28 (by assumption) ?h28
  case hi28 => (simp only [List.getElem?_toArray, List.getElem?_cons_zero, List.getElem?_cons_succ]; rfl)
  case hs28 => kernel_rfl
  case hf28 => kernel_rfl
  case hr28 => kernel_rfl
  case hQ28 => exact fun _ _ _ h => h
  case hy28 => (refine Or.inl ⟨by kernel_rfl, ?_⟩; intro w hSw; (try dsimp only at hSw); go_simp; all_goals (with_reducible rfl))
  try (simp only [Act.put, List.setIfInBounds_toArray, List.set_cons_zero, List.set_cons_succ])
  refine wpAnyH_take (i := 29) (oi := ?oi29) (v := ?v29) ?hi29 ?hs29 ?hf29 ?hr29 ?hQ29 ?hy29 (by assumption) ?h29
  case hi29 => (simp only [List.getElem?_toArray, List.getElem?_cons_zero, List.getElem?_cons_succ]; rfl)
  case hs29 => kernel_rfl
  case hf29 => kernel_rfl
  case hr29 => kernel_rfl
  case hQ29 => exact fun _ _ _ h => h
  case hy29 => (refine Or.inl ⟨by kernel_rfl, ?_⟩; intro w hSw; (try dsimp only at hSw); go_simp; all_goals (with_reducible rfl))
  try (simp only [Act.put, List.setIfInBounds_toArray, List.set_cons_zero, List.set_cons_succ])
  refine wpAnyH_take (i := 30) (oi := ?oi30) (v := ?v30) ?hi30 ?hs30 ?hf30 ?hr30 ?hQ30 ?hy30 (by assumption) ?h30
  case hi30 => (simp only [List.getElem?_toArray, List.getElem?_cons_zero, List.getElem?_cons_succ]; rfl)
  case hs30 => kernel_rfl
  case hf30 => kernel_rfl
  case hr30 => kernel_rfl
  case hQ30 => exact fun _ _ _ h => h
  case hy30 => (refine Or.inl ⟨by kernel_rfl, ?_⟩; intro w hSw; (try dsimp only at hSw); go_simp; all_goals (with_reducible rfl))
  try (simp only [Act.put, List.setIfInBounds_toArray, List.set_cons_zero, List.set_cons_succ])
  refine wpAnyH_take (i := 31) (oi := ?oi31) (v := ?v31) ?hi31 ?hs31 ?hf31 ?hr31 ?hQ31 ?hy31 (by assumption) ?h31
  case hi31 => (simp only [List.getElem?_toArray, List.getElem?_cons_zero, List.getElem?_cons_succ]; rfl)
  case hs31 => kernel_rfl
  case hf31 => kernel_rfl
  case hr31 => kernel_rfl
  case hQ31 => exact fun _ _ _ h => h
  case hy31 => (refine Or.inl ⟨by kernel_rfl, ?_⟩; intro w hSw; (try dsimp only at hSw); go_simp; all_goals (with_reducible rfl))
  try (simp only [Act.put, List.setIfInBounds_toArray, List.set_cons_zero, List.set_cons_succ])
  refine wpAnyH_take (i := 32) (oi := ?oi32) (v := ?v32) ?hi32 ?hs32 ?hf32 ?hr32 ?hQ32 ?hy32 (by assumption) ?h32
  case hi32 => (simp only [List.getElem?_toArray, List.getElem?_cons_zero, List.getElem?_cons_succ]; rfl)
  case hs32 => kernel_rfl
  case hf32 => kernel_rfl
  case hr32 => kernel_rfl
  case hQ32 => exact fun _ _ _ h => h
  case hy32 => (refine Or.inl ⟨by kernel_rfl, ?_⟩; intro w hSw; (try dsimp only at hSw); go_simp; all_goals (with_reducible rfl))
  try (simp only [Act.put, List.setIfInBounds_toArray, List.set_cons_zero, List.set_cons_succ])
  refine wpAnyH_take (i := 33) (oi := ?oi33) (v := ?v33) ?hi33 ?hs33 ?hf33 ?hr33 ?hQ33 ?hy33 (by assumption) ?h33
  case hi33 => (simp only [List.getElem?_toArray, List.getElem?_cons_zero, List.getElem?_cons_succ]; rfl)
  case hs33 => kernel_rfl
  case hf33 => kernel_rfl
  case hr33 => kernel_rfl
  case hQ33 => exact fun _ _ _ h => h
  case hy33 => (refine Or.inl ⟨by kernel_rfl, ?_⟩; intro w hSw; (try dsimp only at hSw); go_simp; all_goals (with_reducible rfl))
  try (simp only [Act.put, List.setIfInBounds_toArray, List.set_cons_zero, List.set_cons_succ])
  refine wpAnyH_take (i := 34) (oi := ?oi34) (v := ?v34) ?hi34 ?hs34 ?hf34 ?hr34 ?hQ34 ?hy34 (by assumption) ?h34
  case hi34 => (simp only [List.getElem?_toArray, List.getElem?_cons_zero, List.getElem?_cons_succ]; rfl)
  case hs34 => kernel_rfl
  case hf34 => kernel_rfl
  case hr34 => kernel_rfl
  case hQ34 => exact fun _ _ _ h => h
  case hy34 => (refine Or.inl ⟨by kernel_rfl, ?_⟩; intro w hSw; (try dsimp only at hSw); go_simp; all_goals (with_reducible rfl))
  try (simp only [Act.put, List.setIfInBounds_toArray, List.set_cons_zero, List.set_cons_succ])
  refine wpAnyH_take (i := 35) (oi := ?oi35) (v := ?v35) ?hi35 ?hs35 ?hf35 ?hr35 ?hQ35 ?hy35 (by assumption) ?h35
  case hi35 => (simp only [List.getElem?_toArray, List.getElem?_cons_zero, List.getElem?_cons_succ]; rfl)
  case hs35 => kernel_rfl
  case hf35 => kernel_rfl
  case hr35 => kernel_rfl
  case hQ35 => exact fun _ _ _ h => h
  case hy35 => (refine Or.inl ⟨by kernel_rfl, ?_⟩; intro w hSw; (try dsimp only at hSw); go_simp; all_goals (with_reducible rfl))
  try (simp only [Act.put, List.setIfInBounds_toArray, List.set_cons_zero, List.set_cons_succ])
  refine wpAnyH_take (i := 36) (oi := ?oi36) (v := ?v36) ?hi36 ?hs36 ?hf36 ?hr36 ?hQ36 ?hy36 (by assumption) ?h36
  case hi36 => (simp only [List.getElem?_toArray, List.getElem?_cons_zero, List.getElem?_cons_succ]; rfl)
  case hs36 => kernel_rfl
  case hf36 => kernel_rfl
  case hr36 => kernel_rfl
  case hQ36 => exact fun _ _ _ h => h
  case hy36 => (refine Or.inl ⟨by kernel_rfl, ?_⟩; intro w hSw; (try dsimp only at hSw); go_simp; all_goals (with_reducible rfl))
  try (simp only [Act.put, List.setIfInBounds_toArray, List.set_cons_zero, List.set_cons_succ])
  refine wpAnyH_take (i := 37) (oi := ?oi37) (v := ?v37) ?hi37 ?hs37 ?hf37 ?hr37 ?hQ37 ?hy37 (by assumption) ?h37
  case hi37 => (simp only [List.getElem?_toArray, List.getElem?_cons_zero, List.getElem?_cons_succ]; rfl)
  case hs37 => kernel_rfl
  case hf37 => kernel_rfl
  case hr37 => kernel_rfl
  case hQ37 => exact fun _ _ _ h => h
  case hy37 => (refine Or.inl ⟨by kernel_rfl, ?_⟩; intro w hSw; (try dsimp only at hSw); go_simp; all_goals (with_reducible rfl))
  try (simp only [Act.put, List.setIfInBounds_toArray, List.set_cons_zero, List.set_cons_succ])
  refine wpAnyH_take (i := 38) (oi := ?oi38) (v := ?v38) ?hi38 ?hs38 ?hf38 ?hr38 ?hQ38 ?hy38 (by assumption) ?h38
  case hi38 => (simp only [List.getElem?_toArray, List.getElem?_cons_zero, List.getElem?_cons_succ]; rfl)
  case hs38 => kernel_rfl
  case hf38 => kernel_rfl
  case hr38 => kernel_rfl
  case hQ38 => exact fun _ _ _ h => h
  case hy38 => (refine Or.inl ⟨by kernel_rfl, ?_⟩; intro w hSw; (try dsimp only at hSw); go_simp; all_goals (with_reducible rfl))
  try (simp only [Act.put, List.setIfInBounds_toArray, List.set_cons_zero, List.set_cons_succ])
  refine wpAnyH_take (i := 39) (oi := ?oi39) (v := ?v39) ?hi39 ?hs39 ?hf39 ?hr39 ?hQ39 ?hy39 (by assumption) ?h39
  case hi39 => (simp only [List.getElem?_toArray, List.getElem?_cons_zero, List.getElem?_cons_succ]; rfl)
  case hs39 => kernel_rfl
  case hf39 => kernel_rfl
  case hr39 => kernel_rfl
  case hQ39 => exact fun _ _ _ h => h
  case hy39 => (refine Or.inl ⟨by kernel_rfl, ?_⟩; intro w hSw; (try dsimp only at hSw); go_simp; all_goals (with_reducible rfl))
  try (simp only [Act.put, List.setIfInBounds_toArray, List.set_cons_zero, List.set_cons_succ])
  refine wpAnyH_done ?hr ?hq _
  case hr => kernel_rfl
  refine NoPanic.normal ?_
  clear hHeld2 hHeld3 hHeld4 hHeld5
  go_wp2
  go_ret
  exact ⟨rfl, (b5'.drew.trans (b6.mono b5'.size)).trans (b7.mono (Nat.le_trans b5'.size b6.size))⟩
end Go.Proofs.Ytmimnefjeidedaa
