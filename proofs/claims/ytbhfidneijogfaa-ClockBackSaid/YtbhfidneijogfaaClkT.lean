/- Chapter 24: the walk of ClockBack. -/
import Derived.Test.YtbhfidneijogfaaClkS
import Derived.Deep.CutRange
namespace Go.Proofs.Ytbhfidneijogfaa
open Go.RowKit
set_option linter.unusedVariables false
set_option linter.unusedSimpArgs false
attribute [local go_sem] Oper.semAt_some
set_option maxRecDepth 20000 in
set_option maxHeartbeats 16000000 in
theorem clockBack_walk (i : Bool) (d m y : Int) (j : Bool) (h mi s c n : Int) (w : World) (wd : (Lit.int .i64 d).wf = true) (wm : (Lit.int .i64 m).wf = true) (wy : (Lit.int .i64 y).wf = true) (wh : (Lit.int .i64 h).wf = true) (wmi : (Lit.int .i64 mi).wf = true) (ws : (Lit.int .i64 s).wf = true) (wc : (Lit.int .i64 c).wf = true) (wn : (Lit.int .i64 n).wf = true) :
    Calls Try.prog 12 #[.agg #[.bool i, .int .i64 d, .int .i64 m, .int .i64 y], .agg #[.bool j, .int .i64 h, .int .i64 mi, .int .i64 s, .int .i64 c], .int .i64 n] w fun e w' => e = .returned (.bool true) ∧ Below w.heap.size w w' := by
  have im : I64 m := bounds_i64 wm
  have iy : I64 y := bounds_i64 wy
  have inn : I64 n := bounds_i64 wn
  clear wd wm wy wh wmi ws wc wn
  have HK := hid law24_knows
  have H1 := hid fun w => c_Put j h mi s c w
  have H2 := hid fun w => c_PutDate i d m y w im iy
  have H3 := hid fun w => c_Count i d m y j h mi s c w im iy
  have H4 := hid fun w => c_Of n w inn
  -- the time's text
  have HT : Hid (mayP j h mi s c = true → ∀ w, Calls Try.prog 45 #[.string (putV j h mi s c)] w fun e w' => e = .returned (.tuple #[.agg #[.bool j, .int .i64 h, .int .i64 mi, .int .i64 s, .int .i64 c], .int .i64 0]) ∧ Below w.heap.size w w') := hid fun g w => by
    obtain ⟨z1, z2, z3⟩ := put_take j h mi s c g
    have h5 := c_Take (putV j h mi s c) w z1
    unfold Taken at h5
    rw [z2, z3] at h5
    exact h5
  have HTD : Hid (mayDP i d m y = true → ∀ w, Calls Try.prog 50 #[.string (putDV i d m y)] w fun e w' => e = .returned (.tuple #[.agg #[.bool i, .int .i64 d, .int .i64 m, .int .i64 y], .int .i64 0]) ∧ Below w.heap.size w w') := hid fun g w => by
    obtain ⟨z1, z2, z3⟩ := putD_take i d m y g
    have h5 := c_TakeDate (putDV i d m y) w z1
    unfold TakenD at h5
    rw [z2, z3] at h5
    exact h5
  have HO : Hid (countB i d m y j h mi s c = true → 0 ≤ countN i d m y j h mi s c ∧ ∀ w, Calls Try.prog 40 #[.int .i64 (countN i d m y j h mi s c)] w fun e w' => e = .returned (.tuple #[.agg #[.bool i, .int .i64 d, .int .i64 m, .int .i64 y], .agg #[.bool j, .int .i64 h, .int .i64 mi, .int .i64 s, .int .i64 c], .bool true]) ∧ Below w.heap.size w w') := hid fun g => by
    have hN : countN i d m y j h mi s c = countV d m y h mi s c := by unfold countN; rw [if_pos g]
    unfold countB at g
    cases i <;> cases j <;> simp at g
    obtain ⟨g1, g2⟩ := g
    obtain ⟨⟨k1, k2⟩, k3, k4⟩ := count_of d m y h mi s c g1 g2
    obtain ⟨b1, b2, b3, b4⟩ := may_bd h mi s c g2
    rw [hN]
    refine ⟨k1, fun w => (c_Of _ w (by unfold I64; omega)).mono fun e w' hd => ?_⟩
    rcases hd with ⟨q, _⟩ | ⟨_, d', m', y', hd', hr', rfl, hb'⟩
    · rw [(inB_iff _ _ _).2 ⟨k1, k2⟩] at q; cases q
    · obtain ⟨rfl, rfl, rfl⟩ := rank_one d' m' y' d m y hd' ((isDay_may d m y).1 g1) (by rw [hr', k3])
      rw [k4, rest_back h mi s c b1 b2 b3 b4]
      exact ⟨rfl, hb'⟩
  have HE1 : Hid ((mayP j h mi s c = false ∧ putE j h mi s c = 5) ∨ (mayP j h mi s c = true ∧ putE j h mi s c = 0)) := hid (by unfold putE; cases mayP j h mi s c <;> simp)
  have HE2 : Hid ((mayDP i d m y = false ∧ putDE i d m y = 5) ∨ (mayDP i d m y = true ∧ putDE i d m y = 0)) := hid (by unfold putDE; cases mayDP i d m y <;> simp)
  clear im iy inn
  generalize putV j h mi s c = S1 at *
  generalize putE j h mi s c = E1 at *
  generalize putDV i d m y = S2 at *
  generalize putDE i d m y = E2 at *
  generalize countN i d m y j h mi s c = N at *
  generalize countB i d m y j h mi s c = B at *
  have hp := (Blk.new w 60 #[.bool i, .int .i64 d, .int .i64 m, .int .i64 y]).alloc (.cells #[.bool j, .int .i64 h, .int .i64 mi, .int .i64 s, .int .i64 c] 62)
  have hq := Blk.new (w.alloc (.cells #[.bool i, .int .i64 d, .int .i64 m, .int .i64 y] 60)) 62 #[.bool j, .int .i64 h, .int .i64 mi, .int .i64 s, .int .i64 c]
  simp only [World.size_alloc] at hq
  have hb := ((Below.refl w.heap.size w).alloc (Nat.le_refl _) (.cells #[.bool i, .int .i64 d, .int .i64 m, .int .i64 y] 60)).alloc (by simp) (.cells #[.bool j, .int .i64 h, .int .i64 mi, .int .i64 s, .int .i64 c] 62)
  have ii : (i == i) = true := by simp
  have ii2 : (i != i) = false := by simp
  have jj : (j == j) = true := by simp
  have jj2 : (j != j) = false := by simp
  have f0 : ((w.alloc (.cells #[.bool i, .int .i64 d, .int .i64 m, .int .i64 y] 60)).alloc (.cells #[.bool j, .int .i64 h, .int .i64 mi, .int .i64 s, .int .i64 c] 62)).cell? ⟨w.heap.size, 0, none⟩ = some (.bool i) := hp.cell 0
  have f1 : ((w.alloc (.cells #[.bool i, .int .i64 d, .int .i64 m, .int .i64 y] 60)).alloc (.cells #[.bool j, .int .i64 h, .int .i64 mi, .int .i64 s, .int .i64 c] 62)).cell? ⟨w.heap.size, 1, none⟩ = some (.int .i64 d) := hp.cell 1
  have f2 : ((w.alloc (.cells #[.bool i, .int .i64 d, .int .i64 m, .int .i64 y] 60)).alloc (.cells #[.bool j, .int .i64 h, .int .i64 mi, .int .i64 s, .int .i64 c] 62)).cell? ⟨w.heap.size, 2, none⟩ = some (.int .i64 m) := hp.cell 2
  have f3 : ((w.alloc (.cells #[.bool i, .int .i64 d, .int .i64 m, .int .i64 y] 60)).alloc (.cells #[.bool j, .int .i64 h, .int .i64 mi, .int .i64 s, .int .i64 c] 62)).cell? ⟨w.heap.size, 3, none⟩ = some (.int .i64 y) := hp.cell 3
  have k0 : ((w.alloc (.cells #[.bool i, .int .i64 d, .int .i64 m, .int .i64 y] 60)).alloc (.cells #[.bool j, .int .i64 h, .int .i64 mi, .int .i64 s, .int .i64 c] 62)).cell? ⟨w.heap.size + 1, 0, none⟩ = some (.bool j) := hq.cell 0
  have k1 : ((w.alloc (.cells #[.bool i, .int .i64 d, .int .i64 m, .int .i64 y] 60)).alloc (.cells #[.bool j, .int .i64 h, .int .i64 mi, .int .i64 s, .int .i64 c] 62)).cell? ⟨w.heap.size + 1, 1, none⟩ = some (.int .i64 h) := hq.cell 1
  have k2 : ((w.alloc (.cells #[.bool i, .int .i64 d, .int .i64 m, .int .i64 y] 60)).alloc (.cells #[.bool j, .int .i64 h, .int .i64 mi, .int .i64 s, .int .i64 c] 62)).cell? ⟨w.heap.size + 1, 2, none⟩ = some (.int .i64 mi) := hq.cell 2
  have k3 : ((w.alloc (.cells #[.bool i, .int .i64 d, .int .i64 m, .int .i64 y] 60)).alloc (.cells #[.bool j, .int .i64 h, .int .i64 mi, .int .i64 s, .int .i64 c] 62)).cell? ⟨w.heap.size + 1, 3, none⟩ = some (.int .i64 s) := hq.cell 3
  have k4 : ((w.alloc (.cells #[.bool i, .int .i64 d, .int .i64 m, .int .i64 y] 60)).alloc (.cells #[.bool j, .int .i64 h, .int .i64 mi, .int .i64 s, .int .i64 c] 62)).cell? ⟨w.heap.size + 1, 4, none⟩ = some (.int .i64 c) := hq.cell 4
  go_enter Try.func12, Try.ntmps12
  go_wp2_with fail
  clear f0 f1 f2 f3 k0 k1 k2 k3 k4
  generalize (w.alloc (.cells #[.bool i, .int .i64 d, .int .i64 m, .int .i64 y] 60)).alloc (.cells #[.bool j, .int .i64 h, .int .i64 mi, .int .i64 s, .int .i64 c] 62) = W0 at *
  refine (H1.out _).mono ?_
  rintro e w1 ⟨rfl, b1⟩
  replace hp := hp.below b1 hp.lt
  replace hq := hq.below b1 hq.lt
  replace hb := below24 hb b1
  clear b1
  go_upto_if 36 with (go_at_call 47; refine (l24_num _ _).mono ?_; rintro e w' ⟨rfl, rfl⟩)
  go_cut [] from 7 to 49 (fun wx => Blk wx w.heap.size 60 #[.bool i, .int .i64 d, .int .i64 m, .int .i64 y] ∧ Blk wx (w.heap.size + 1) 62 #[.bool j, .int .i64 h, .int .i64 mi, .int .i64 s, .int .i64 c] ∧ Below w.heap.size w wx)
  case first =>
    rcases HE1.out with ⟨g, rfl⟩ | ⟨g, rfl⟩
    · clear g
      go_wp2_with fail
      go_meet
      exact ⟨hp, hq, hb⟩
    · have HT2 := hid (HT.out g)
      clear g
      go_wp2_with fail
      refine (HT2.out _).mono ?_
      rintro e w2 ⟨rfl, b2⟩
      replace hp := hp.below b2 hp.lt
      replace hq := hq.below b2 hq.lt
      replace hb := below24 hb b2
      clear b2
      have ex := Blk.new w2 62 #[.bool j, .int .i64 h, .int .i64 mi, .int .i64 s, .int .i64 c]
      have hps := hp.lt
      have hqs := hq.lt
      replace hp := hp.alloc (.cells #[.bool j, .int .i64 h, .int .i64 mi, .int .i64 s, .int .i64 c] 62)
      replace hq := hq.alloc (.cells #[.bool j, .int .i64 h, .int .i64 mi, .int .i64 s, .int .i64 c] 62)
      replace hb := hb.alloc hb.size (.cells #[.bool j, .int .i64 h, .int .i64 mi, .int .i64 s, .int .i64 c] 62)
      have f0 : (w2.alloc (.cells #[.bool j, .int .i64 h, .int .i64 mi, .int .i64 s, .int .i64 c] 62)).cell? ⟨w.heap.size, 0, none⟩ = some (.bool i) := hp.cell 0
      have f1 : (w2.alloc (.cells #[.bool j, .int .i64 h, .int .i64 mi, .int .i64 s, .int .i64 c] 62)).cell? ⟨w.heap.size, 1, none⟩ = some (.int .i64 d) := hp.cell 1
      have f2 : (w2.alloc (.cells #[.bool j, .int .i64 h, .int .i64 mi, .int .i64 s, .int .i64 c] 62)).cell? ⟨w.heap.size, 2, none⟩ = some (.int .i64 m) := hp.cell 2
      have f3 : (w2.alloc (.cells #[.bool j, .int .i64 h, .int .i64 mi, .int .i64 s, .int .i64 c] 62)).cell? ⟨w.heap.size, 3, none⟩ = some (.int .i64 y) := hp.cell 3
      have k0 : (w2.alloc (.cells #[.bool j, .int .i64 h, .int .i64 mi, .int .i64 s, .int .i64 c] 62)).cell? ⟨w.heap.size + 1, 0, none⟩ = some (.bool j) := hq.cell 0
      have k1 : (w2.alloc (.cells #[.bool j, .int .i64 h, .int .i64 mi, .int .i64 s, .int .i64 c] 62)).cell? ⟨w.heap.size + 1, 1, none⟩ = some (.int .i64 h) := hq.cell 1
      have k2 : (w2.alloc (.cells #[.bool j, .int .i64 h, .int .i64 mi, .int .i64 s, .int .i64 c] 62)).cell? ⟨w.heap.size + 1, 2, none⟩ = some (.int .i64 mi) := hq.cell 2
      have k3 : (w2.alloc (.cells #[.bool j, .int .i64 h, .int .i64 mi, .int .i64 s, .int .i64 c] 62)).cell? ⟨w.heap.size + 1, 3, none⟩ = some (.int .i64 s) := hq.cell 3
      have k4 : (w2.alloc (.cells #[.bool j, .int .i64 h, .int .i64 mi, .int .i64 s, .int .i64 c] 62)).cell? ⟨w.heap.size + 1, 4, none⟩ = some (.int .i64 c) := hq.cell 4
      have x0 : (w2.alloc (.cells #[.bool j, .int .i64 h, .int .i64 mi, .int .i64 s, .int .i64 c] 62)).cell? ⟨w2.heap.size, 0, none⟩ = some (.bool j) := ex.cell 0
      have x1 : (w2.alloc (.cells #[.bool j, .int .i64 h, .int .i64 mi, .int .i64 s, .int .i64 c] 62)).cell? ⟨w2.heap.size, 1, none⟩ = some (.int .i64 h) := ex.cell 1
      have x2 : (w2.alloc (.cells #[.bool j, .int .i64 h, .int .i64 mi, .int .i64 s, .int .i64 c] 62)).cell? ⟨w2.heap.size, 2, none⟩ = some (.int .i64 mi) := ex.cell 2
      have x3 : (w2.alloc (.cells #[.bool j, .int .i64 h, .int .i64 mi, .int .i64 s, .int .i64 c] 62)).cell? ⟨w2.heap.size, 3, none⟩ = some (.int .i64 s) := ex.cell 3
      have x4 : (w2.alloc (.cells #[.bool j, .int .i64 h, .int .i64 mi, .int .i64 s, .int .i64 c] 62)).cell? ⟨w2.heap.size, 4, none⟩ = some (.int .i64 c) := ex.cell 4
      go_wp2_with (go_at_call 47; refine (l24_num _ _).mono ?_; rintro e w' ⟨rfl, rfl⟩)
      go_meet
      exact ⟨hp, hq, hb⟩
  case rest =>
    clear hp hq hb HE1 HT H1
    obtain ⟨hp, hq, hb⟩ := hcut
    have f0 : (wc).cell? ⟨w.heap.size, 0, none⟩ = some (.bool i) := hp.cell 0
    have f1 : (wc).cell? ⟨w.heap.size, 1, none⟩ = some (.int .i64 d) := hp.cell 1
    have f2 : (wc).cell? ⟨w.heap.size, 2, none⟩ = some (.int .i64 m) := hp.cell 2
    have f3 : (wc).cell? ⟨w.heap.size, 3, none⟩ = some (.int .i64 y) := hp.cell 3
    have k0 : (wc).cell? ⟨w.heap.size + 1, 0, none⟩ = some (.bool j) := hq.cell 0
    have k1 : (wc).cell? ⟨w.heap.size + 1, 1, none⟩ = some (.int .i64 h) := hq.cell 1
    have k2 : (wc).cell? ⟨w.heap.size + 1, 2, none⟩ = some (.int .i64 mi) := hq.cell 2
    have k3 : (wc).cell? ⟨w.heap.size + 1, 3, none⟩ = some (.int .i64 s) := hq.cell 3
    have k4 : (wc).cell? ⟨w.heap.size + 1, 4, none⟩ = some (.int .i64 c) := hq.cell 4
    go_wp2_with fail
    clear f0 f1 f2 f3 k0 k1 k2 k3 k4
    refine (H2.out _).mono ?_
    rintro e w1 ⟨rfl, b1⟩
    replace hp := hp.below b1 hp.lt
    replace hq := hq.below b1 hq.lt
    replace hb := below24 hb b1
    clear b1
    go_upto_if 57 with (go_at_call 47; refine (l24_num _ _).mono ?_; rintro e w' ⟨rfl, rfl⟩)
    go_cut [] from 11 to 70 (fun wx => Blk wx w.heap.size 60 #[.bool i, .int .i64 d, .int .i64 m, .int .i64 y] ∧ Blk wx (w.heap.size + 1) 62 #[.bool j, .int .i64 h, .int .i64 mi, .int .i64 s, .int .i64 c] ∧ Below w.heap.size w wx)
    case first =>
      rcases HE2.out with ⟨g, rfl⟩ | ⟨g, rfl⟩
      · clear g
        go_wp2_with fail
        go_meet
        exact ⟨hp, hq, hb⟩
      · have HT2 := hid (HTD.out g)
        clear g
        go_wp2_with fail
        refine (HT2.out _).mono ?_
        rintro e w2 ⟨rfl, b2⟩
        replace hp := hp.below b2 hp.lt
        replace hq := hq.below b2 hq.lt
        replace hb := below24 hb b2
        clear b2
        have ex := Blk.new w2 60 #[.bool i, .int .i64 d, .int .i64 m, .int .i64 y]
        have hps := hp.lt
        have hqs := hq.lt
        replace hp := hp.alloc (.cells #[.bool i, .int .i64 d, .int .i64 m, .int .i64 y] 60)
        replace hq := hq.alloc (.cells #[.bool i, .int .i64 d, .int .i64 m, .int .i64 y] 60)
        replace hb := hb.alloc hb.size (.cells #[.bool i, .int .i64 d, .int .i64 m, .int .i64 y] 60)
        have f0 : (w2.alloc (.cells #[.bool i, .int .i64 d, .int .i64 m, .int .i64 y] 60)).cell? ⟨w.heap.size, 0, none⟩ = some (.bool i) := hp.cell 0
        have f1 : (w2.alloc (.cells #[.bool i, .int .i64 d, .int .i64 m, .int .i64 y] 60)).cell? ⟨w.heap.size, 1, none⟩ = some (.int .i64 d) := hp.cell 1
        have f2 : (w2.alloc (.cells #[.bool i, .int .i64 d, .int .i64 m, .int .i64 y] 60)).cell? ⟨w.heap.size, 2, none⟩ = some (.int .i64 m) := hp.cell 2
        have f3 : (w2.alloc (.cells #[.bool i, .int .i64 d, .int .i64 m, .int .i64 y] 60)).cell? ⟨w.heap.size, 3, none⟩ = some (.int .i64 y) := hp.cell 3
        have k0 : (w2.alloc (.cells #[.bool i, .int .i64 d, .int .i64 m, .int .i64 y] 60)).cell? ⟨w.heap.size + 1, 0, none⟩ = some (.bool j) := hq.cell 0
        have k1 : (w2.alloc (.cells #[.bool i, .int .i64 d, .int .i64 m, .int .i64 y] 60)).cell? ⟨w.heap.size + 1, 1, none⟩ = some (.int .i64 h) := hq.cell 1
        have k2 : (w2.alloc (.cells #[.bool i, .int .i64 d, .int .i64 m, .int .i64 y] 60)).cell? ⟨w.heap.size + 1, 2, none⟩ = some (.int .i64 mi) := hq.cell 2
        have k3 : (w2.alloc (.cells #[.bool i, .int .i64 d, .int .i64 m, .int .i64 y] 60)).cell? ⟨w.heap.size + 1, 3, none⟩ = some (.int .i64 s) := hq.cell 3
        have k4 : (w2.alloc (.cells #[.bool i, .int .i64 d, .int .i64 m, .int .i64 y] 60)).cell? ⟨w.heap.size + 1, 4, none⟩ = some (.int .i64 c) := hq.cell 4
        have x0 : (w2.alloc (.cells #[.bool i, .int .i64 d, .int .i64 m, .int .i64 y] 60)).cell? ⟨w2.heap.size, 0, none⟩ = some (.bool i) := ex.cell 0
        have x1 : (w2.alloc (.cells #[.bool i, .int .i64 d, .int .i64 m, .int .i64 y] 60)).cell? ⟨w2.heap.size, 1, none⟩ = some (.int .i64 d) := ex.cell 1
        have x2 : (w2.alloc (.cells #[.bool i, .int .i64 d, .int .i64 m, .int .i64 y] 60)).cell? ⟨w2.heap.size, 2, none⟩ = some (.int .i64 m) := ex.cell 2
        have x3 : (w2.alloc (.cells #[.bool i, .int .i64 d, .int .i64 m, .int .i64 y] 60)).cell? ⟨w2.heap.size, 3, none⟩ = some (.int .i64 y) := ex.cell 3
        go_wp2_with (go_at_call 47; refine (l24_num _ _).mono ?_; rintro e w' ⟨rfl, rfl⟩)
        go_meet
        exact ⟨hp, hq, hb⟩
    case rest =>
      clear hp hq hb HE2 HTD H2
      rename_i wc0 _
      obtain ⟨hp, hq, hb⟩ := hcut
      have f0 : (wc).cell? ⟨w.heap.size, 0, none⟩ = some (.bool i) := hp.cell 0
      have f1 : (wc).cell? ⟨w.heap.size, 1, none⟩ = some (.int .i64 d) := hp.cell 1
      have f2 : (wc).cell? ⟨w.heap.size, 2, none⟩ = some (.int .i64 m) := hp.cell 2
      have f3 : (wc).cell? ⟨w.heap.size, 3, none⟩ = some (.int .i64 y) := hp.cell 3
      have k0 : (wc).cell? ⟨w.heap.size + 1, 0, none⟩ = some (.bool j) := hq.cell 0
      have k1 : (wc).cell? ⟨w.heap.size + 1, 1, none⟩ = some (.int .i64 h) := hq.cell 1
      have k2 : (wc).cell? ⟨w.heap.size + 1, 2, none⟩ = some (.int .i64 mi) := hq.cell 2
      have k3 : (wc).cell? ⟨w.heap.size + 1, 3, none⟩ = some (.int .i64 s) := hq.cell 3
      have k4 : (wc).cell? ⟨w.heap.size + 1, 4, none⟩ = some (.int .i64 c) := hq.cell 4
      go_wp2_with fail
      clear f0 f1 f2 f3 k0 k1 k2 k3 k4
      refine (H3.out _).mono ?_
      rintro e w1 ⟨rfl, b1⟩
      replace hp := hp.below b1 hp.lt
      replace hq := hq.below b1 hq.lt
      replace hb := below24 hb b1
      clear b1
      go_upto_if 77 with fail
      go_cut [] from 15 to 99 (fun wx => Below w.heap.size w wx)
      case first =>
        cases B
        · go_wp2_with fail
          go_meet
          exact hb
        · obtain ⟨hN0, hO⟩ := HO.out rfl
          have HO2 := hid hO
          clear hO
          have dN : decide (N < 0) = false := by simp; omega
          go_wp2_with fail
          refine (HO2.out _).mono ?_
          rintro e w2 ⟨rfl, b2⟩
          replace hp := hp.below b2 hp.lt
          replace hq := hq.below b2 hq.lt
          replace hb := below24 hb b2
          clear b2
          have ex := (Blk.new w2 60 #[.bool i, .int .i64 d, .int .i64 m, .int .i64 y]).alloc (.cells #[.bool j, .int .i64 h, .int .i64 mi, .int .i64 s, .int .i64 c] 62)
          have ey := Blk.new (w2.alloc (.cells #[.bool i, .int .i64 d, .int .i64 m, .int .i64 y] 60)) 62 #[.bool j, .int .i64 h, .int .i64 mi, .int .i64 s, .int .i64 c]
          simp only [World.size_alloc] at ey
          have hps := hp.lt
          have hqs := hq.lt
          have hbs := hb.size
          replace hp := (hp.alloc (.cells #[.bool i, .int .i64 d, .int .i64 m, .int .i64 y] 60)).alloc (.cells #[.bool j, .int .i64 h, .int .i64 mi, .int .i64 s, .int .i64 c] 62)
          replace hq := (hq.alloc (.cells #[.bool i, .int .i64 d, .int .i64 m, .int .i64 y] 60)).alloc (.cells #[.bool j, .int .i64 h, .int .i64 mi, .int .i64 s, .int .i64 c] 62)
          replace hb := (hb.alloc hb.size (.cells #[.bool i, .int .i64 d, .int .i64 m, .int .i64 y] 60)).alloc (by simp; omega) (.cells #[.bool j, .int .i64 h, .int .i64 mi, .int .i64 s, .int .i64 c] 62)
          have f0 : ((w2.alloc (.cells #[.bool i, .int .i64 d, .int .i64 m, .int .i64 y] 60)).alloc (.cells #[.bool j, .int .i64 h, .int .i64 mi, .int .i64 s, .int .i64 c] 62)).cell? ⟨w.heap.size, 0, none⟩ = some (.bool i) := hp.cell 0
          have f1 : ((w2.alloc (.cells #[.bool i, .int .i64 d, .int .i64 m, .int .i64 y] 60)).alloc (.cells #[.bool j, .int .i64 h, .int .i64 mi, .int .i64 s, .int .i64 c] 62)).cell? ⟨w.heap.size, 1, none⟩ = some (.int .i64 d) := hp.cell 1
          have f2 : ((w2.alloc (.cells #[.bool i, .int .i64 d, .int .i64 m, .int .i64 y] 60)).alloc (.cells #[.bool j, .int .i64 h, .int .i64 mi, .int .i64 s, .int .i64 c] 62)).cell? ⟨w.heap.size, 2, none⟩ = some (.int .i64 m) := hp.cell 2
          have f3 : ((w2.alloc (.cells #[.bool i, .int .i64 d, .int .i64 m, .int .i64 y] 60)).alloc (.cells #[.bool j, .int .i64 h, .int .i64 mi, .int .i64 s, .int .i64 c] 62)).cell? ⟨w.heap.size, 3, none⟩ = some (.int .i64 y) := hp.cell 3
          have k0 : ((w2.alloc (.cells #[.bool i, .int .i64 d, .int .i64 m, .int .i64 y] 60)).alloc (.cells #[.bool j, .int .i64 h, .int .i64 mi, .int .i64 s, .int .i64 c] 62)).cell? ⟨w.heap.size + 1, 0, none⟩ = some (.bool j) := hq.cell 0
          have k1 : ((w2.alloc (.cells #[.bool i, .int .i64 d, .int .i64 m, .int .i64 y] 60)).alloc (.cells #[.bool j, .int .i64 h, .int .i64 mi, .int .i64 s, .int .i64 c] 62)).cell? ⟨w.heap.size + 1, 1, none⟩ = some (.int .i64 h) := hq.cell 1
          have k2 : ((w2.alloc (.cells #[.bool i, .int .i64 d, .int .i64 m, .int .i64 y] 60)).alloc (.cells #[.bool j, .int .i64 h, .int .i64 mi, .int .i64 s, .int .i64 c] 62)).cell? ⟨w.heap.size + 1, 2, none⟩ = some (.int .i64 mi) := hq.cell 2
          have k3 : ((w2.alloc (.cells #[.bool i, .int .i64 d, .int .i64 m, .int .i64 y] 60)).alloc (.cells #[.bool j, .int .i64 h, .int .i64 mi, .int .i64 s, .int .i64 c] 62)).cell? ⟨w.heap.size + 1, 3, none⟩ = some (.int .i64 s) := hq.cell 3
          have k4 : ((w2.alloc (.cells #[.bool i, .int .i64 d, .int .i64 m, .int .i64 y] 60)).alloc (.cells #[.bool j, .int .i64 h, .int .i64 mi, .int .i64 s, .int .i64 c] 62)).cell? ⟨w.heap.size + 1, 4, none⟩ = some (.int .i64 c) := hq.cell 4
          have x0 : ((w2.alloc (.cells #[.bool i, .int .i64 d, .int .i64 m, .int .i64 y] 60)).alloc (.cells #[.bool j, .int .i64 h, .int .i64 mi, .int .i64 s, .int .i64 c] 62)).cell? ⟨w2.heap.size, 0, none⟩ = some (.bool i) := ex.cell 0
          have x1 : ((w2.alloc (.cells #[.bool i, .int .i64 d, .int .i64 m, .int .i64 y] 60)).alloc (.cells #[.bool j, .int .i64 h, .int .i64 mi, .int .i64 s, .int .i64 c] 62)).cell? ⟨w2.heap.size, 1, none⟩ = some (.int .i64 d) := ex.cell 1
          have x2 : ((w2.alloc (.cells #[.bool i, .int .i64 d, .int .i64 m, .int .i64 y] 60)).alloc (.cells #[.bool j, .int .i64 h, .int .i64 mi, .int .i64 s, .int .i64 c] 62)).cell? ⟨w2.heap.size, 2, none⟩ = some (.int .i64 m) := ex.cell 2
          have x3 : ((w2.alloc (.cells #[.bool i, .int .i64 d, .int .i64 m, .int .i64 y] 60)).alloc (.cells #[.bool j, .int .i64 h, .int .i64 mi, .int .i64 s, .int .i64 c] 62)).cell? ⟨w2.heap.size, 3, none⟩ = some (.int .i64 y) := ex.cell 3
          have v0 : ((w2.alloc (.cells #[.bool i, .int .i64 d, .int .i64 m, .int .i64 y] 60)).alloc (.cells #[.bool j, .int .i64 h, .int .i64 mi, .int .i64 s, .int .i64 c] 62)).cell? ⟨w2.heap.size + 1, 0, none⟩ = some (.bool j) := ey.cell 0
          have v1 : ((w2.alloc (.cells #[.bool i, .int .i64 d, .int .i64 m, .int .i64 y] 60)).alloc (.cells #[.bool j, .int .i64 h, .int .i64 mi, .int .i64 s, .int .i64 c] 62)).cell? ⟨w2.heap.size + 1, 1, none⟩ = some (.int .i64 h) := ey.cell 1
          have v2 : ((w2.alloc (.cells #[.bool i, .int .i64 d, .int .i64 m, .int .i64 y] 60)).alloc (.cells #[.bool j, .int .i64 h, .int .i64 mi, .int .i64 s, .int .i64 c] 62)).cell? ⟨w2.heap.size + 1, 2, none⟩ = some (.int .i64 mi) := ey.cell 2
          have v3 : ((w2.alloc (.cells #[.bool i, .int .i64 d, .int .i64 m, .int .i64 y] 60)).alloc (.cells #[.bool j, .int .i64 h, .int .i64 mi, .int .i64 s, .int .i64 c] 62)).cell? ⟨w2.heap.size + 1, 3, none⟩ = some (.int .i64 s) := ey.cell 3
          have v4 : ((w2.alloc (.cells #[.bool i, .int .i64 d, .int .i64 m, .int .i64 y] 60)).alloc (.cells #[.bool j, .int .i64 h, .int .i64 mi, .int .i64 s, .int .i64 c] 62)).cell? ⟨w2.heap.size + 1, 4, none⟩ = some (.int .i64 c) := ey.cell 4
          go_wp2_with fail
          go_meet
          exact hb
      case rest =>
        clear hp hq hb H3 HO
        have hb := hcut
        go_wp2_with fail
        refine (H4.out _).mono ?_
        rintro e w1 (⟨g, rfl, b1⟩ | ⟨g, d1, m1, y1, hday, hr, rfl, b1⟩)
        · replace hb := below24 hb b1
          have hbs := hb.size
          replace hb := (hb.alloc hb.size (.cells #[.bool false, .int .i64 0, .int .i64 0, .int .i64 0] 60)).alloc (by simp; omega) (.cells #[.bool false, .int .i64 0, .int .i64 0, .int .i64 0, .int .i64 0] 62)
          have hn := (inB_no _ _ _).1 g
          clear g
          by_cases hneg : n < 0
          · have dn : decide (n < 0) = true := by simpa using hneg
            go_wp2_with fail
            refine (HK.out _).mono ?_
            rintro e w2 ⟨rfl, b2⟩
            go_wp2
            go_ret
            exact ⟨rfl, below24 hb b2⟩
          · have dn : decide (n < 0) = false := by simpa using hneg
            have dn2 : decide (315576000000 ≤ n) = true := by simp; omega
            go_wp2_with fail
            refine (HK.out _).mono ?_
            rintro e w2 ⟨rfl, b2⟩
            go_wp2
            go_ret
            exact ⟨rfl, below24 hb b2⟩
        · have hn0 := ((inB_iff _ _ _).1 g).1
          obtain ⟨hmay, hcv⟩ := of_count n d1 m1 y1 hn0 hday hr
          have hmd := (isDay_may d1 m1 y1).2 hday
          obtain ⟨hy1, hm1, hd1⟩ := id hday
          have hdb := date_back d1 m1 y1 hday
          simp only [restV]
          generalize n % 8640000 / 360000 = a1 at *
          generalize n % 8640000 % 360000 / 6000 = a2 at *
          generalize n % 8640000 % 6000 / 100 = a3 at *
          generalize n % 8640000 % 100 = a4 at *
          have htb := time_back a1 a2 a3 a4 hmay
          have hcB : countB true d1 m1 y1 true a1 a2 a3 a4 = true := by unfold countB; rw [hmd, hmay]; rfl
          have hcN : countN true d1 m1 y1 true a1 a2 a3 a4 = n := by unfold countN; rw [if_pos hcB, hcv]
          have h6 := fun w => c_Count true d1 m1 y1 true a1 a2 a3 a4 w (by unfold I64; omega) (by unfold I64; omega)
          have h7 := fun w => c_PutDate true d1 m1 y1 w (by unfold I64; omega) (by unfold I64; omega)
          have h8 := fun w => c_Put true a1 a2 a3 a4 w
          rw [hcB, hcN] at h6
          rw [show putDV true d1 m1 y1 = strOfNums (putDL d1 m1 y1) by unfold putDV; rw [if_pos ⟨rfl, hmd⟩], show putDE true d1 m1 y1 = 0 by unfold putDE; rw [hmd]; rfl] at h7
          rw [show putV true a1 a2 a3 a4 = strOfNums (putL a1 a2 a3 a4) by unfold putV; rw [if_pos ⟨rfl, hmay⟩], show putE true a1 a2 a3 a4 = 0 by unfold putE; rw [hmay]; rfl] at h8
          have sz6 := hdb.1
          have sz9 := htb.1
          generalize strOfNums (putDL d1 m1 y1) = T1 at *
          generalize strOfNums (putL a1 a2 a3 a4) = T2 at *
          have H6 := hid h6
          have H7 := hid h7
          have H8 := hid h8
          clear h6 h7 h8 hdb htb hcB hcN hmay hcv hmd hday hr hy1 hm1 hd1 g hn0
          have t6 : decide (6 ≤ (T2.size : Int)) = true := by simp; omega
          have t9 : decide ((T2.size : Int) ≤ 9) = true := by simp; omega
          replace hb := below24 hb b1
          have hbs := hb.size
          have ex := (Blk.new w1 60 #[.bool true, .int .i64 d1, .int .i64 m1, .int .i64 y1]).alloc (.cells #[.bool true, .int .i64 a1, .int .i64 a2, .int .i64 a3, .int .i64 a4] 62)
          have ey := Blk.new (w1.alloc (.cells #[.bool true, .int .i64 d1, .int .i64 m1, .int .i64 y1] 60)) 62 #[.bool true, .int .i64 a1, .int .i64 a2, .int .i64 a3, .int .i64 a4]
          simp only [World.size_alloc] at ey
          replace hb := (hb.alloc hb.size (.cells #[.bool true, .int .i64 d1, .int .i64 m1, .int .i64 y1] 60)).alloc (by simp; omega) (.cells #[.bool true, .int .i64 a1, .int .i64 a2, .int .i64 a3, .int .i64 a4] 62)
          have x0 : ((w1.alloc (.cells #[.bool true, .int .i64 d1, .int .i64 m1, .int .i64 y1] 60)).alloc (.cells #[.bool true, .int .i64 a1, .int .i64 a2, .int .i64 a3, .int .i64 a4] 62)).cell? ⟨w1.heap.size, 0, none⟩ = some (.bool true) := ex.cell 0
          have x1 : ((w1.alloc (.cells #[.bool true, .int .i64 d1, .int .i64 m1, .int .i64 y1] 60)).alloc (.cells #[.bool true, .int .i64 a1, .int .i64 a2, .int .i64 a3, .int .i64 a4] 62)).cell? ⟨w1.heap.size, 1, none⟩ = some (.int .i64 d1) := ex.cell 1
          have x2 : ((w1.alloc (.cells #[.bool true, .int .i64 d1, .int .i64 m1, .int .i64 y1] 60)).alloc (.cells #[.bool true, .int .i64 a1, .int .i64 a2, .int .i64 a3, .int .i64 a4] 62)).cell? ⟨w1.heap.size, 2, none⟩ = some (.int .i64 m1) := ex.cell 2
          have x3 : ((w1.alloc (.cells #[.bool true, .int .i64 d1, .int .i64 m1, .int .i64 y1] 60)).alloc (.cells #[.bool true, .int .i64 a1, .int .i64 a2, .int .i64 a3, .int .i64 a4] 62)).cell? ⟨w1.heap.size, 3, none⟩ = some (.int .i64 y1) := ex.cell 3
          have v0 : ((w1.alloc (.cells #[.bool true, .int .i64 d1, .int .i64 m1, .int .i64 y1] 60)).alloc (.cells #[.bool true, .int .i64 a1, .int .i64 a2, .int .i64 a3, .int .i64 a4] 62)).cell? ⟨w1.heap.size + 1, 0, none⟩ = some (.bool true) := ey.cell 0
          have v1 : ((w1.alloc (.cells #[.bool true, .int .i64 d1, .int .i64 m1, .int .i64 y1] 60)).alloc (.cells #[.bool true, .int .i64 a1, .int .i64 a2, .int .i64 a3, .int .i64 a4] 62)).cell? ⟨w1.heap.size + 1, 1, none⟩ = some (.int .i64 a1) := ey.cell 1
          have v2 : ((w1.alloc (.cells #[.bool true, .int .i64 d1, .int .i64 m1, .int .i64 y1] 60)).alloc (.cells #[.bool true, .int .i64 a1, .int .i64 a2, .int .i64 a3, .int .i64 a4] 62)).cell? ⟨w1.heap.size + 1, 2, none⟩ = some (.int .i64 a2) := ey.cell 2
          have v3 : ((w1.alloc (.cells #[.bool true, .int .i64 d1, .int .i64 m1, .int .i64 y1] 60)).alloc (.cells #[.bool true, .int .i64 a1, .int .i64 a2, .int .i64 a3, .int .i64 a4] 62)).cell? ⟨w1.heap.size + 1, 3, none⟩ = some (.int .i64 a3) := ey.cell 3
          have v4 : ((w1.alloc (.cells #[.bool true, .int .i64 d1, .int .i64 m1, .int .i64 y1] 60)).alloc (.cells #[.bool true, .int .i64 a1, .int .i64 a2, .int .i64 a3, .int .i64 a4] 62)).cell? ⟨w1.heap.size + 1, 4, none⟩ = some (.int .i64 a4) := ey.cell 4
          go_wp2_with fail
          clear x0 x1 x2 x3 v0 v1 v2 v3 v4
          generalize (w1.alloc (.cells #[.bool true, .int .i64 d1, .int .i64 m1, .int .i64 y1] 60)).alloc (.cells #[.bool true, .int .i64 a1, .int .i64 a2, .int .i64 a3, .int .i64 a4] 62) = W5 at *
          generalize w1.heap.size = g5 at *
          refine (H6.out _).mono ?_
          rintro e w2 ⟨rfl, b2⟩
          replace ex := ex.below b2 ex.lt
          replace ey := ey.below b2 ey.lt
          replace hb := below24 hb b2
          have x0 : (w2).cell? ⟨g5, 0, none⟩ = some (.bool true) := ex.cell 0
          have x1 : (w2).cell? ⟨g5, 1, none⟩ = some (.int .i64 d1) := ex.cell 1
          have x2 : (w2).cell? ⟨g5, 2, none⟩ = some (.int .i64 m1) := ex.cell 2
          have x3 : (w2).cell? ⟨g5, 3, none⟩ = some (.int .i64 y1) := ex.cell 3
          have v0 : (w2).cell? ⟨g5 + 1, 0, none⟩ = some (.bool true) := ey.cell 0
          have v1 : (w2).cell? ⟨g5 + 1, 1, none⟩ = some (.int .i64 a1) := ey.cell 1
          have v2 : (w2).cell? ⟨g5 + 1, 2, none⟩ = some (.int .i64 a2) := ey.cell 2
          have v3 : (w2).cell? ⟨g5 + 1, 3, none⟩ = some (.int .i64 a3) := ey.cell 3
          have v4 : (w2).cell? ⟨g5 + 1, 4, none⟩ = some (.int .i64 a4) := ey.cell 4
          go_wp2_with fail
          clear x0 x1 x2 x3 v0 v1 v2 v3 v4
          refine (H7.out _).mono ?_
          rintro e w3 ⟨rfl, b3⟩
          replace ex := ex.below b3 ex.lt
          replace ey := ey.below b3 ey.lt
          replace hb := below24 hb b3
          have x0 : (w3).cell? ⟨g5, 0, none⟩ = some (.bool true) := ex.cell 0
          have x1 : (w3).cell? ⟨g5, 1, none⟩ = some (.int .i64 d1) := ex.cell 1
          have x2 : (w3).cell? ⟨g5, 2, none⟩ = some (.int .i64 m1) := ex.cell 2
          have x3 : (w3).cell? ⟨g5, 3, none⟩ = some (.int .i64 y1) := ex.cell 3
          have v0 : (w3).cell? ⟨g5 + 1, 0, none⟩ = some (.bool true) := ey.cell 0
          have v1 : (w3).cell? ⟨g5 + 1, 1, none⟩ = some (.int .i64 a1) := ey.cell 1
          have v2 : (w3).cell? ⟨g5 + 1, 2, none⟩ = some (.int .i64 a2) := ey.cell 2
          have v3 : (w3).cell? ⟨g5 + 1, 3, none⟩ = some (.int .i64 a3) := ey.cell 3
          have v4 : (w3).cell? ⟨g5 + 1, 4, none⟩ = some (.int .i64 a4) := ey.cell 4
          go_wp2_with fail
          clear x0 x1 x2 x3 v0 v1 v2 v3 v4
          refine (H8.out _).mono ?_
          rintro e w4 ⟨rfl, b4⟩
          replace hb := below24 hb b4
          have nn : (n == n) = true := by simp
          go_wp2_with (go_at_call 47; refine (l24_num _ _).mono ?_; rintro e w' ⟨rfl, rfl⟩)
          refine (HK.out _).mono ?_
          rintro e w5 ⟨rfl, b5⟩
          go_wp2
          go_ret
          exact ⟨rfl, below24 hb b5⟩
end Go.Proofs.Ytbhfidneijogfaa
