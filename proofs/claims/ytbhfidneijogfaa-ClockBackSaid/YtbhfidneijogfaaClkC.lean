/- Chapter 24: may a date be. -/
import Derived.Test.YtbhfidneijogfaaClkB
namespace Go.Proofs.Ytbhfidneijogfaa
open Go.RowKit
set_option linter.unusedVariables false
set_option linter.unusedSimpArgs false
attribute [local go_sem] Oper.semAt_some
/-- An operation of a drawn region that is not wanted. -/
theorem tkw {P : Program} {md : Region.Mode} {ops : Array Oper} {Q : Exit → Act → World → Prop} {S : World → Prop} (i : Nat) {oi : Oper} {fuel : Nat} {listed L : Array Bool} {a a' : Act} {w : World} (hS : S w) (h : wpAnyH P md ops Q S fuel L a' w)
    (hi : ops[i]? = some oi := by simp only [List.getElem?_toArray, List.getElem?_cons_zero, List.getElem?_cons_succ]; rfl)
    (hs : Region.noSelect ops = true := by kernel_rfl) (hf : Region.free md ops listed i = true := by kernel_rfl) (hr : (Region.ready md ops listed).contains i = true := by kernel_rfl)
    (hw : Region.wanted oi (yielded ops a.tmps) = false := by kernel_rfl)
    (hL : listed.setIfInBounds i true = L := by (try simp only [List.setIfInBounds_toArray, List.set_cons_zero, List.set_cons_succ]); with_reducible rfl)
    (ha : a.put oi.dst undef = a' := by (try simp only [Act.put, List.setIfInBounds_toArray, List.set_cons_zero, List.set_cons_succ]); with_reducible rfl)
    (hQ : ∀ c a w, Q (.panic c) (a.put oi.dst undef) w → Q (.panic c) a w := by exact fun _ _ _ h => h) : wpAnyH P md ops Q S (fuel + 1) listed a w := by
  subst hL
  subst ha
  exact wpAnyH_take hi hs hf hr hQ (Or.inr ⟨hw, rfl⟩) hS h

set_option maxHeartbeats 2000000 in
theorem c_mayDate (i : Bool) (d m y : Int) (w : World) (hm : I64 m) (hy : I64 y) :
    Calls Try.prog 63 #[.agg #[.bool i, .int .i64 d, .int .i64 m, .int .i64 y]] w fun e w' => e = .returned (.bool (mayDP i d m y)) ∧ Below w.heap.size w w' := by
  cases i
  · by_cases hz : d = 0 ∧ m = 0 ∧ y = 0
    · obtain ⟨rfl, rfl, rfl⟩ := hz
      have HM : Hid (mayDP false 0 0 0 = true) := rfl
      have hp := Blk.new w 60 #[.bool false, .int .i64 0, .int .i64 0, .int .i64 0]
      have hb := (Below.refl w.heap.size w).alloc (Nat.le_refl _) (.cells #[.bool false, .int .i64 0, .int .i64 0, .int .i64 0] 60)
      have f0 : (w.alloc (.cells #[.bool false, .int .i64 0, .int .i64 0, .int .i64 0] 60)).cell? ⟨w.heap.size, 0, none⟩ = some (.bool false) := hp.cell 0
      have f1 : (w.alloc (.cells #[.bool false, .int .i64 0, .int .i64 0, .int .i64 0] 60)).cell? ⟨w.heap.size, 1, none⟩ = some (.int .i64 0) := hp.cell 1
      have f2 : (w.alloc (.cells #[.bool false, .int .i64 0, .int .i64 0, .int .i64 0] 60)).cell? ⟨w.heap.size, 2, none⟩ = some (.int .i64 0) := hp.cell 2
      have f3 : (w.alloc (.cells #[.bool false, .int .i64 0, .int .i64 0, .int .i64 0] 60)).cell? ⟨w.heap.size, 3, none⟩ = some (.int .i64 0) := hp.cell 3
      have HB := hid hb
      clear hp hb
      go_enter Try.func63, Try.ntmps63
      go_wp2
      go_ret
      exact ⟨by rw [HM.out]; rfl, HB.out⟩
    · have HM : Hid (mayDP false d m y = false) := hid (by unfold mayDP; simpa using hz)
      have hp := Blk.new w 60 #[.bool false, .int .i64 d, .int .i64 m, .int .i64 y]
      have hb := (Below.refl w.heap.size w).alloc (Nat.le_refl _) (.cells #[.bool false, .int .i64 d, .int .i64 m, .int .i64 y] 60)
      have f0 : (w.alloc (.cells #[.bool false, .int .i64 d, .int .i64 m, .int .i64 y] 60)).cell? ⟨w.heap.size, 0, none⟩ = some (.bool false) := hp.cell 0
      have f1 : (w.alloc (.cells #[.bool false, .int .i64 d, .int .i64 m, .int .i64 y] 60)).cell? ⟨w.heap.size, 1, none⟩ = some (.int .i64 d) := hp.cell 1
      have f2 : (w.alloc (.cells #[.bool false, .int .i64 d, .int .i64 m, .int .i64 y] 60)).cell? ⟨w.heap.size, 2, none⟩ = some (.int .i64 m) := hp.cell 2
      have f3 : (w.alloc (.cells #[.bool false, .int .i64 d, .int .i64 m, .int .i64 y] 60)).cell? ⟨w.heap.size, 3, none⟩ = some (.int .i64 y) := hp.cell 3
      have HB := hid hb
      clear hp hb
      go_enter Try.func63, Try.ntmps63
      go_wp2
      all_goals (try subst_vars)
      all_goals (try (exfalso; exact hz ⟨rfl, rfl, rfl⟩))
      all_goals go_ret
      all_goals exact ⟨by rw [HM.out]; rfl, HB.out⟩
  · have HM : Hid (mayDP true d m y = inB d 1 (daysP m y)) := rfl
    have HD := hid fun w => c_Days m y w hm hy
    have hp := Blk.new w 60 #[.bool true, .int .i64 d, .int .i64 m, .int .i64 y]
    have hb := (Below.refl w.heap.size w).alloc (Nat.le_refl _) (.cells #[.bool true, .int .i64 d, .int .i64 m, .int .i64 y] 60)
    have f0 : (w.alloc (.cells #[.bool true, .int .i64 d, .int .i64 m, .int .i64 y] 60)).cell? ⟨w.heap.size, 0, none⟩ = some (.bool true) := hp.cell 0
    have f1 : (w.alloc (.cells #[.bool true, .int .i64 d, .int .i64 m, .int .i64 y] 60)).cell? ⟨w.heap.size, 1, none⟩ = some (.int .i64 d) := hp.cell 1
    have f2 : (w.alloc (.cells #[.bool true, .int .i64 d, .int .i64 m, .int .i64 y] 60)).cell? ⟨w.heap.size, 2, none⟩ = some (.int .i64 m) := hp.cell 2
    have f3 : (w.alloc (.cells #[.bool true, .int .i64 d, .int .i64 m, .int .i64 y] 60)).cell? ⟨w.heap.size, 3, none⟩ = some (.int .i64 y) := hp.cell 3
    go_enter Try.func63, Try.ntmps63
    go_wp2_with fail
    clear f0 f1 f2 f3
    generalize w.alloc (.cells #[.bool true, .int .i64 d, .int .i64 m, .int .i64 y] 60) = W0 at *
    refine wp_region_noPanic ?_
    refine wp_region_held_drew (S := (fun w' : World => w'.cell? ⟨w.heap.size, 0, none⟩ = some (.bool true) ∧ w'.cell? ⟨w.heap.size, 1, none⟩ = some (.int .i64 d) ∧ w'.cell? ⟨w.heap.size, 2, none⟩ = some (.int .i64 m) ∧ w'.cell? ⟨w.heap.size, 3, none⟩ = some (.int .i64 y))) (by kernel_rfl) ⟨hp.cell 0, hp.cell 1, hp.cell 2, hp.cell 3⟩ (fun hHeld => ?_)
    refine (show wpAnyH _ _ _ _ _ 9 _ _ _ from ?_)
    try (simp only [Act.put, List.setIfInBounds_toArray, List.set_cons_zero, List.set_cons_succ])
    replace hp := hp.drew
    replace hb := hb.drew
    generalize W0.drew = V at *
    refine tk 0 hHeld ?_
    refine tk 1 hHeld ?_
    refine tk 2 hHeld ?_
    refine tk 3 hHeld ?_
    refine tk 4 hHeld ?_
    refine tk 5 hHeld ?_
    refine rd1 6 (fun K hK => ?_)
    go_simp
    refine (HD.out _).mono ?_
    rintro e V1 ⟨rfl, b1⟩
    go_wp2_with fail
    replace hp := hp.below b1 hp.lt
    replace hb := hb.trans (b1.mono hb.size)
    clear b1
    refine hK.out _ _ ⟨hp.cell 0, hp.cell 1, hp.cell 2, hp.cell 3⟩ (fun hHeld => ?_)
    clear hK K
    try (simp only [Act.put, List.setIfInBounds_toArray, List.set_cons_zero, List.set_cons_succ])
    refine rd1 7 (fun K hK => ?_)
    go_simp
    refine (c_in _ _ _ _).mono ?_
    rintro e w' ⟨rfl, rfl⟩
    go_wp2_with fail
    refine hK.out _ _ hHeld (fun hHeld => ?_)
    clear hK K
    try (simp only [Act.put, List.setIfInBounds_toArray, List.set_cons_zero, List.set_cons_succ])
    refine tk 8 hHeld ?_
    refine wpAnyH_done (by kernel_rfl) ?_ _
    refine NoPanic.normal ?_
    go_wp2
    go_ret
    exact ⟨by rw [HM.out]; rfl, hb⟩
set_option maxHeartbeats 2000000 in
theorem r_MayDate (i : Bool) (d m y : Int) (w : World) (hm : I64 m) (hy : I64 y) :
    Calls Try.prog 67 #[.agg #[.bool i, .int .i64 d, .int .i64 m, .int .i64 y]] w fun e w' => e = .returned (.bool (mayDP i d m y)) ∧ Below w.heap.size w w' := by
  cases i
  · by_cases hz : d = 0 ∧ m = 0 ∧ y = 0
    · obtain ⟨rfl, rfl, rfl⟩ := hz
      have HM : Hid (mayDP false 0 0 0 = true) := rfl
      have hp := Blk.new w 60 #[.bool false, .int .i64 0, .int .i64 0, .int .i64 0]
      have hb := (Below.refl w.heap.size w).alloc (Nat.le_refl _) (.cells #[.bool false, .int .i64 0, .int .i64 0, .int .i64 0] 60)
      have f0 : (w.alloc (.cells #[.bool false, .int .i64 0, .int .i64 0, .int .i64 0] 60)).cell? ⟨w.heap.size, 0, none⟩ = some (.bool false) := hp.cell 0
      have f1 : (w.alloc (.cells #[.bool false, .int .i64 0, .int .i64 0, .int .i64 0] 60)).cell? ⟨w.heap.size, 1, none⟩ = some (.int .i64 0) := hp.cell 1
      have f2 : (w.alloc (.cells #[.bool false, .int .i64 0, .int .i64 0, .int .i64 0] 60)).cell? ⟨w.heap.size, 2, none⟩ = some (.int .i64 0) := hp.cell 2
      have f3 : (w.alloc (.cells #[.bool false, .int .i64 0, .int .i64 0, .int .i64 0] 60)).cell? ⟨w.heap.size, 3, none⟩ = some (.int .i64 0) := hp.cell 3
      have HB := hid hb
      clear hp hb
      go_enter Try.func67, Try.ntmps67
      go_wp2
      go_ret
      exact ⟨by rw [HM.out]; rfl, HB.out⟩
    · have HM : Hid (mayDP false d m y = false) := hid (by unfold mayDP; simpa using hz)
      have hp := Blk.new w 60 #[.bool false, .int .i64 d, .int .i64 m, .int .i64 y]
      have hb := (Below.refl w.heap.size w).alloc (Nat.le_refl _) (.cells #[.bool false, .int .i64 d, .int .i64 m, .int .i64 y] 60)
      have f0 : (w.alloc (.cells #[.bool false, .int .i64 d, .int .i64 m, .int .i64 y] 60)).cell? ⟨w.heap.size, 0, none⟩ = some (.bool false) := hp.cell 0
      have f1 : (w.alloc (.cells #[.bool false, .int .i64 d, .int .i64 m, .int .i64 y] 60)).cell? ⟨w.heap.size, 1, none⟩ = some (.int .i64 d) := hp.cell 1
      have f2 : (w.alloc (.cells #[.bool false, .int .i64 d, .int .i64 m, .int .i64 y] 60)).cell? ⟨w.heap.size, 2, none⟩ = some (.int .i64 m) := hp.cell 2
      have f3 : (w.alloc (.cells #[.bool false, .int .i64 d, .int .i64 m, .int .i64 y] 60)).cell? ⟨w.heap.size, 3, none⟩ = some (.int .i64 y) := hp.cell 3
      have HB := hid hb
      clear hp hb
      go_enter Try.func67, Try.ntmps67
      go_wp2
      all_goals (try subst_vars)
      all_goals (try (exfalso; exact hz ⟨rfl, rfl, rfl⟩))
      all_goals go_ret
      all_goals exact ⟨by rw [HM.out]; rfl, HB.out⟩
  · by_cases g : 1 ≤ d
    · have HM : Hid (mayDP true d m y = decide (d ≤ daysP m y)) := hid (by show inB d 1 (daysP m y) = _; unfold inB; simp; omega)
      have dg : decide (1 ≤ d) = true := by simpa using g
      have HD := hid fun w => r_Days m y w hm hy
      generalize daysP m y = D at *
      have hp := Blk.new w 60 #[.bool true, .int .i64 d, .int .i64 m, .int .i64 y]
      have hb := (Below.refl w.heap.size w).alloc (Nat.le_refl _) (.cells #[.bool true, .int .i64 d, .int .i64 m, .int .i64 y] 60)
      have f0 : (w.alloc (.cells #[.bool true, .int .i64 d, .int .i64 m, .int .i64 y] 60)).cell? ⟨w.heap.size, 0, none⟩ = some (.bool true) := hp.cell 0
      have f1 : (w.alloc (.cells #[.bool true, .int .i64 d, .int .i64 m, .int .i64 y] 60)).cell? ⟨w.heap.size, 1, none⟩ = some (.int .i64 d) := hp.cell 1
      have f2 : (w.alloc (.cells #[.bool true, .int .i64 d, .int .i64 m, .int .i64 y] 60)).cell? ⟨w.heap.size, 2, none⟩ = some (.int .i64 m) := hp.cell 2
      have f3 : (w.alloc (.cells #[.bool true, .int .i64 d, .int .i64 m, .int .i64 y] 60)).cell? ⟨w.heap.size, 3, none⟩ = some (.int .i64 y) := hp.cell 3
      go_enter Try.func67, Try.ntmps67
      go_wp2_with fail
      clear f0 f1 f2 f3
      generalize w.alloc (.cells #[.bool true, .int .i64 d, .int .i64 m, .int .i64 y] 60) = W0 at *
      refine wp_region_noPanic ?_
      refine wp_region_held_drew (S := (fun w' : World => w'.cell? ⟨w.heap.size, 0, none⟩ = some (.bool true) ∧ w'.cell? ⟨w.heap.size, 1, none⟩ = some (.int .i64 d) ∧ w'.cell? ⟨w.heap.size, 2, none⟩ = some (.int .i64 m) ∧ w'.cell? ⟨w.heap.size, 3, none⟩ = some (.int .i64 y))) (by kernel_rfl) ⟨hp.cell 0, hp.cell 1, hp.cell 2, hp.cell 3⟩ (fun hHeld => ?_)
      refine (show wpAnyH _ _ _ _ _ 14 _ _ _ from ?_)
      try (simp only [Act.put, List.setIfInBounds_toArray, List.set_cons_zero, List.set_cons_succ])
      replace hb := hb.drew
      generalize W0.drew = V at *
      refine tk 0 hHeld ?_
      refine tk 1 hHeld ?_
      refine tk 2 hHeld ?_
      refine tk 3 hHeld ?_
      refine tk 4 hHeld ?_
      refine tk 5 hHeld ?_
      refine tk 6 hHeld ?_
      refine tk 7 hHeld ?_
      refine tk 8 hHeld ?_
      refine tk 9 hHeld ?_
      refine rd1 10 (fun K hK => ?_)
      go_simp
      refine (HD.out _).mono ?_
      rintro e w' ⟨rfl, rfl⟩
      go_wp2_with fail
      refine hK.out _ _ hHeld (fun hHeld => ?_)
      clear hK K
      try (simp only [Act.put, List.setIfInBounds_toArray, List.set_cons_zero, List.set_cons_succ])
      refine tk 11 hHeld ?_
      refine tk 12 hHeld ?_
      refine tk 13 hHeld ?_
      refine wpAnyH_done (by kernel_rfl) ?_ _
      refine NoPanic.normal ?_
      go_wp2
      go_ret
      exact ⟨by rw [HM.out]; rfl, hb⟩
    · have HM : Hid (mayDP true d m y = false) := hid ((inB_no _ _ _).2 (.inl (by omega)))
      have dg : decide (1 ≤ d) = false := by simpa using g
      have HD := hid fun w => r_Days m y w hm hy
      generalize daysP m y = D at *
      have hp := Blk.new w 60 #[.bool true, .int .i64 d, .int .i64 m, .int .i64 y]
      have hb := (Below.refl w.heap.size w).alloc (Nat.le_refl _) (.cells #[.bool true, .int .i64 d, .int .i64 m, .int .i64 y] 60)
      have f0 : (w.alloc (.cells #[.bool true, .int .i64 d, .int .i64 m, .int .i64 y] 60)).cell? ⟨w.heap.size, 0, none⟩ = some (.bool true) := hp.cell 0
      have f1 : (w.alloc (.cells #[.bool true, .int .i64 d, .int .i64 m, .int .i64 y] 60)).cell? ⟨w.heap.size, 1, none⟩ = some (.int .i64 d) := hp.cell 1
      have f2 : (w.alloc (.cells #[.bool true, .int .i64 d, .int .i64 m, .int .i64 y] 60)).cell? ⟨w.heap.size, 2, none⟩ = some (.int .i64 m) := hp.cell 2
      have f3 : (w.alloc (.cells #[.bool true, .int .i64 d, .int .i64 m, .int .i64 y] 60)).cell? ⟨w.heap.size, 3, none⟩ = some (.int .i64 y) := hp.cell 3
      go_enter Try.func67, Try.ntmps67
      go_wp2_with fail
      clear f0 f1 f2 f3
      generalize w.alloc (.cells #[.bool true, .int .i64 d, .int .i64 m, .int .i64 y] 60) = W0 at *
      refine wp_region_noPanic ?_
      refine wp_region_held_drew (S := (fun w' : World => w'.cell? ⟨w.heap.size, 0, none⟩ = some (.bool true) ∧ w'.cell? ⟨w.heap.size, 1, none⟩ = some (.int .i64 d) ∧ w'.cell? ⟨w.heap.size, 2, none⟩ = some (.int .i64 m) ∧ w'.cell? ⟨w.heap.size, 3, none⟩ = some (.int .i64 y))) (by kernel_rfl) ⟨hp.cell 0, hp.cell 1, hp.cell 2, hp.cell 3⟩ (fun hHeld => ?_)
      refine (show wpAnyH _ _ _ _ _ 14 _ _ _ from ?_)
      try (simp only [Act.put, List.setIfInBounds_toArray, List.set_cons_zero, List.set_cons_succ])
      replace hb := hb.drew
      generalize W0.drew = V at *
      refine tk 0 hHeld ?_
      refine tk 1 hHeld ?_
      refine tk 2 hHeld ?_
      refine tk 3 hHeld ?_
      refine tkw 4 hHeld ?_
      refine tkw 5 hHeld ?_
      refine tkw 6 hHeld ?_
      refine tkw 7 hHeld ?_
      refine tkw 8 hHeld ?_
      refine tkw 9 hHeld ?_
      refine tkw 10 hHeld ?_
      refine tkw 11 hHeld ?_
      refine tk 12 hHeld ?_
      refine tk 13 hHeld ?_
      refine wpAnyH_done (by kernel_rfl) ?_ _
      refine NoPanic.normal ?_
      go_wp2
      go_ret
      exact ⟨by rw [HM.out]; rfl, hb⟩
end Go.Proofs.Ytbhfidneijogfaa
