/- Chapter 11: the walk of UnitKept. -/
import Derived.Test.YtlcikfnhgldonaaUnitH
import Derived.Test.YtlcikfnhgldonaaUnitG
namespace Go.Proofs.Ytlcikfnhgldonaa
open Go.RowKit
set_option linter.unusedVariables false
set_option linter.unusedSimpArgs false

theorem kept_all (a0 a1 a2 a3 : Int) (ia0 : I32 a0) (ia1 : I32 a1) (ia2 : I32 a2) (ia3 : I32 a3) (j k : Nat) (hj : j < 4) (hk : k < 4) :
    ([a0, a1, a2, a3][j]?.getD 0 < 0 → [makeP [a0, a1, a2, a3] a0, makeP [a0, a1, a2, a3] a1, makeP [a0, a1, a2, a3] a2, makeP [a0, a1, a2, a3] a3][j]?.getD 0 ≤ 0) ∧
    (0 ≤ [a0, a1, a2, a3][j]?.getD 0 → 0 ≤ [makeP [a0, a1, a2, a3] a0, makeP [a0, a1, a2, a3] a1, makeP [a0, a1, a2, a3] a2, makeP [a0, a1, a2, a3] a3][j]?.getD 0) ∧
    ([a0, a1, a2, a3][j]?.getD 0 = 0 → [makeP [a0, a1, a2, a3] a0, makeP [a0, a1, a2, a3] a1, makeP [a0, a1, a2, a3] a2, makeP [a0, a1, a2, a3] a3][j]?.getD 0 = 0) ∧
    (absP ([a0, a1, a2, a3][k]?.getD 0) ≤ absP ([a0, a1, a2, a3][j]?.getD 0) → absP ([makeP [a0, a1, a2, a3] a0, makeP [a0, a1, a2, a3] a1, makeP [a0, a1, a2, a3] a2, makeP [a0, a1, a2, a3] a3][k]?.getD 0) ≤ absP ([makeP [a0, a1, a2, a3] a0, makeP [a0, a1, a2, a3] a1, makeP [a0, a1, a2, a3] a2, makeP [a0, a1, a2, a3] a3][j]?.getD 0)) ∧
    (decide (0 < farP [a0, a1, a2, a3]) = false → [makeP [a0, a1, a2, a3] a0, makeP [a0, a1, a2, a3] a1, makeP [a0, a1, a2, a3] a2, makeP [a0, a1, a2, a3] a3][j]?.getD 0 = 0) := by
  have hA : ∀ x ∈ [a0, a1, a2, a3], -2147483648 ≤ x ∧ x ≤ 2147483647 := by unfold I32 at *; simp; omega
  have e : ∀ i, i < 4 → [makeP [a0, a1, a2, a3] a0, makeP [a0, a1, a2, a3] a1, makeP [a0, a1, a2, a3] a2, makeP [a0, a1, a2, a3] a3][i]?.getD 0 = makeP [a0, a1, a2, a3] ([a0, a1, a2, a3][i]?.getD 0) := by
    intro i hi
    match i, hi with
    | 0, _ => rfl
    | 1, _ => rfl
    | 2, _ => rfl
    | 3, _ => rfl
  rw [e j hj, e k hk]
  have h := make_kept [a0, a1, a2, a3] hA _ _ (mem4 _ j hj) (mem4 _ k hk)
  simpa using h

/-- An operation that is not wanted is passed over. -/
theorem tku {P : Program} {md : Region.Mode} {ops : Array Oper} {Q : Exit → Act → World → Prop} {S : World → Prop} (i : Nat) {oi : Oper} {fuel : Nat} {listed L : Array Bool} {a a' : Act} {w : World} (hS : S w) (h : wpAnyH P md ops Q S fuel L a' w)
    (hi : ops[i]? = some oi := by simp only [List.getElem?_toArray, List.getElem?_cons_zero, List.getElem?_cons_succ]; rfl)
    (hs : Region.noSelect ops = true := by kernel_rfl) (hf : Region.free md ops listed i = true := by kernel_rfl) (hr : (Region.ready md ops listed).contains i = true := by kernel_rfl)
    (hw : Region.wanted oi (yielded ops a.tmps) = false := by kernel_rfl)
    (hL : listed.setIfInBounds i true = L := by (try simp only [List.setIfInBounds_toArray, List.set_cons_zero, List.set_cons_succ]); with_reducible rfl)
    (ha : a.put oi.dst undef = a' := by (try simp only [Act.put, List.setIfInBounds_toArray, List.set_cons_zero, List.set_cons_succ]); with_reducible rfl)
    (hQ : ∀ c a w, Q (.panic c) (a.put oi.dst undef) w → Q (.panic c) a w := by exact fun _ _ _ h => h) : wpAnyH P md ops Q S (fuel + 1) listed a w := by
  subst hL
  subst ha
  exact wpAnyH_take hi hs hf hr hQ (Or.inr ⟨hw, rfl⟩) hS h

set_option maxHeartbeats 16000000 in
theorem unitKept_walk (a0 a1 a2 a3 : Int) (w : World) (va0 : (Lit.int .i32 a0).wf = true) (va1 : (Lit.int .i32 a1).wf = true) (va2 : (Lit.int .i32 a2).wf = true) (va3 : (Lit.int .i32 a3).wf = true) :
    Calls Try.prog 9 #[.agg #[.int .i32 a0, .int .i32 a1, .int .i32 a2, .int .i32 a3]] w fun e w' => e = .returned (.bool true) ∧ Below w.heap.size w w' := by
  have ia0 : I32 a0 := bounds_i32 va0
  have ia1 : I32 a1 := bounds_i32 va1
  have ia2 : I32 a2 := bounds_i32 va2
  have ia3 : I32 a3 := bounds_i32 va3
  clear va0 va1 va2 va3
  have HK := hid fun w => law11_knows w
  have h1 := fun w => u_Make a0 a1 a2 a3 w ia0 ia1 ia2 ia3
  unfold Makes at h1
  have hA : ∀ x ∈ [a0, a1, a2, a3], -2147483648 ≤ x ∧ x ≤ 2147483647 := by unfold I32 at *; simp; omega
  have key := kept_all a0 a1 a2 a3 ia0 ia1 ia2 ia3
  have j0 : I32 (makeP [a0, a1, a2, a3] a0) := makeP_32 a0 a1 a2 a3 a0 ia0 ia1 ia2 ia3 (by simp)
  have j1 : I32 (makeP [a0, a1, a2, a3] a1) := makeP_32 a0 a1 a2 a3 a1 ia0 ia1 ia2 ia3 (by simp)
  have j2 : I32 (makeP [a0, a1, a2, a3] a2) := makeP_32 a0 a1 a2 a3 a2 ia0 ia1 ia2 ia3 (by simp)
  have j3 : I32 (makeP [a0, a1, a2, a3] a3) := makeP_32 a0 a1 a2 a3 a3 ia0 ia1 ia2 ia3 (by simp)
  generalize makeP [a0, a1, a2, a3] a0 = x0 at *
  generalize makeP [a0, a1, a2, a3] a1 = x1 at *
  generalize makeP [a0, a1, a2, a3] a2 = x2 at *
  generalize makeP [a0, a1, a2, a3] a3 = x3 at *
  generalize decide (0 < farP [a0, a1, a2, a3]) = B at *
  have H1 := hid h1
  clear h1 hA
  have AI : ∀ x ∈ [a0, a1, a2, a3], I32 x := by simp; exact ⟨ia0, ia1, ia2, ia3⟩
  have XI : ∀ x ∈ [x0, x1, x2, x3], I32 x := by simp; exact ⟨j0, j1, j2, j3⟩
  clear ia0 ia1 ia2 ia3 j0 j1 j2 j3
  have KEY := hid key
  have AI2 := hid AI
  have XI2 := hid XI
  clear key AI XI
  go_enter Try.func9, Try.ntmps9
  have hp0 : Blk (w.alloc (.cells #[.int .i32 a0, .int .i32 a1, .int .i32 a2, .int .i32 a3] 23)) w.heap.size 23 #[.int .i32 a0, .int .i32 a1, .int .i32 a2, .int .i32 a3] := Blk.new w _ _
  have hb : Below w.heap.size w (w.alloc (.cells #[.int .i32 a0, .int .i32 a1, .int .i32 a2, .int .i32 a3] 23)) := (Below.refl _ w).alloc (Nat.le_refl _) _
  go_wp2_with fail
  generalize w.alloc (.cells #[.int .i32 a0, .int .i32 a1, .int .i32 a2, .int .i32 a3] 23) = W0 at *
  refine (H1.out _).mono ?_
  rintro e w1 ⟨rfl, b1⟩
  replace hp0 := hp0.below b1 hp0.lt
  replace hb := hb.on b1
  clear b1
  replace hp0 := hp0.alloc (.cells #[.int .i32 x0, .int .i32 x1, .int .i32 x2, .int .i32 x3] 23)
  have hn1 : Blk (w1.alloc (.cells #[.int .i32 x0, .int .i32 x1, .int .i32 x2, .int .i32 x3] 23)) w1.heap.size 23 #[.int .i32 x0, .int .i32 x1, .int .i32 x2, .int .i32 x3] := Blk.new w1 _ _
  replace hb := hb.alloc hb.size (.cells #[.int .i32 x0, .int .i32 x1, .int .i32 x2, .int .i32 x3] 23)
  generalize hW1 : w1.alloc (.cells #[.int .i32 x0, .int .i32 x1, .int .i32 x2, .int .i32 x3] 23) = W1 at *
  have s1 := hp0.lt
  have s2 := hn1.lt
  have hA := Blk.new W1 37 #[.int .i32 a0, .int .i32 a1, .int .i32 a2, .int .i32 a3]
  replace hn1 := hn1.alloc (.cells #[.int .i32 a0, .int .i32 a1, .int .i32 a2, .int .i32 a3] 37)
  replace hb := hb.alloc hb.size (.cells #[.int .i32 a0, .int .i32 a1, .int .i32 a2, .int .i32 a3] 37)
  generalize hW2 : W1.alloc (.cells #[.int .i32 a0, .int .i32 a1, .int .i32 a2, .int .i32 a3] 37) = W2 at *
  have s3 := hA.lt
  have hX := Blk.new W2 37 #[.int .i32 x0, .int .i32 x1, .int .i32 x2, .int .i32 x3]
  replace hA := hA.alloc (.cells #[.int .i32 x0, .int .i32 x1, .int .i32 x2, .int .i32 x3] 37)
  replace hb := hb.alloc hb.size (.cells #[.int .i32 x0, .int .i32 x1, .int .i32 x2, .int .i32 x3] 37)
  have f0 : W1.cell? ⟨w.heap.size, 0, none⟩ = some (.int .i32 a0) := hp0.cell 0
  have f1 : W1.cell? ⟨w.heap.size, 1, none⟩ = some (.int .i32 a1) := hp0.cell 1
  have f2 : W1.cell? ⟨w.heap.size, 2, none⟩ = some (.int .i32 a2) := hp0.cell 2
  have f3 : W1.cell? ⟨w.heap.size, 3, none⟩ = some (.int .i32 a3) := hp0.cell 3
  have g0 : W2.cell? ⟨w1.heap.size, 0, none⟩ = some (.int .i32 x0) := hn1.cell 0
  have g1 : W2.cell? ⟨w1.heap.size, 1, none⟩ = some (.int .i32 x1) := hn1.cell 1
  have g2 : W2.cell? ⟨w1.heap.size, 2, none⟩ = some (.int .i32 x2) := hn1.cell 2
  have g3 : W2.cell? ⟨w1.heap.size, 3, none⟩ = some (.int .i32 x3) := hn1.cell 3
  go_wp2
  clear f0 f1 f2 f3 g0 g1 g2 g3 hp0 hn1
  generalize W2.alloc (.cells #[.int .i32 x0, .int .i32 x1, .int .i32 x2, .int .i32 x3] 37) = W3 at *
  generalize W2.heap.size = gX at *
  generalize W1.heap.size = gA at *
  clear hW1 hW2
  go_loopw [7] (fun i wr => ∃ j : Nat, j ≤ 4 ∧ i = .int .i64 j ∧ Blk wr gA 37 #[.int .i32 a0, .int .i32 a1, .int .i32 a2, .int .i32 a3] ∧ Blk wr gX 37 #[.int .i32 x0, .int .i32 x1, .int .i32 x2, .int .i32 x3] ∧ Below w.heap.size w wr) (fun i _ => 4 - (intOf i).toNat)
  case atStart => exact ⟨0, by omega, rfl, hA, hX, hb⟩
  case round =>
    clear hA hX hb
    obtain ⟨j, hj, rfl, hA, hX, hb⟩ := hrel
    by_cases hltj : j < 4
    · obtain ⟨k1, k2, k3, _, k5⟩ := KEY.out j j hltj hltj
      have cAj : wr.cell? ⟨gA, j, none⟩ = some (.int .i32 ([a0, a1, a2, a3][j]?.getD 0)) := (hA.cell j).trans (by match j, hltj with | 0, _ => rfl | 1, _ => rfl | 2, _ => rfl | 3, _ => rfl)
      have cXj : wr.cell? ⟨gX, j, none⟩ = some (.int .i32 ([x0, x1, x2, x3][j]?.getD 0)) := (hX.cell j).trans (by match j, hltj with | 0, _ => rfl | 1, _ => rfl | 2, _ => rfl | 3, _ => rfl)
      have pI := AI2.out _ (mem4 [a0, a1, a2, a3] j hltj)
      have qI := XI2.out _ (mem4 [x0, x1, x2, x3] j hltj)
      generalize hp : [a0, a1, a2, a3][j]?.getD 0 = p at *
      generalize hq : [x0, x1, x2, x3][j]?.getD 0 = q at *
      have HP := hid hp
      have HQ := hid hq
      clear hp hq
      have t1 : (0 : Int) ≤ (j : Int) := by omega
      have t2 : (j : Int) < 4 := by omega
      have ew : IntKind.i64.wrap ((j : Int) + 1) = ((j + 1 : Nat) : Int) := (IntWalk.i64_in _ (by omega)).trans (by omega)
      have mj : 4 - (j + 1) < 4 - j := by omega
      go_wp2
      go_cut [65] from 36 to 64 (fun x wx => x = .bool false ∧ Blk wx gA 37 #[.int .i32 a0, .int .i32 a1, .int .i32 a2, .int .i32 a3] ∧ Blk wx gX 37 #[.int .i32 x0, .int .i32 x1, .int .i32 x2, .int .i32 x3] ∧ Below w.heap.size w wx)
      case first =>
        clear ew mj pI qI
        by_cases gq : q = 0
        · have e1 : (q == 0) = true := by simpa using gq
          cases B
          · go_quiet (fail)
            go_wp2
            go_meet
            exact ⟨rfl, hA, hX, hb.drewN' _⟩
          · by_cases gp : p = 0
            · have e2 : (p == 0) = true := by simpa using gp
              go_quiet (fail)
              go_wp2
              go_meet
              exact ⟨rfl, hA, hX, hb.drewN' _⟩
            · have e2 : (p == 0) = false := by simpa using gp
              go_quiet (fail)
              go_wp2
              go_meet
              exact ⟨rfl, hA, hX, hb.drewN' _⟩
        · have e1 : (q == 0) = false := by simpa using gq
          have gp : ¬ p = 0 := fun h => gq (k3 h)
          have e2 : (p == 0) = false := by simpa using gp
          obtain rfl : B = true := by cases B <;> simp_all
          by_cases sp : p < 0
          · have d1 : decide (p < 0) = true := by simpa using sp
            have d2 : decide (q < 0) = true := by have := k1 sp; simp; omega
            go_quiet (fail)
            go_wp2
            go_meet
            exact ⟨rfl, hA, hX, hb.drewN' _⟩
          · have d1 : decide (p < 0) = false := by simpa using sp
            have d2 : decide (q < 0) = false := by have := k2 (by omega); simp; omega
            go_quiet (fail)
            go_wp2
            go_meet
            exact ⟨rfl, hA, hX, hb.drewN' _⟩
      case rest =>
        clear hA hX hb cAj cXj k1 k2 k3 k5
        obtain ⟨rfl, hA, hX, hb⟩ := hcut
        go_wp2
        go_loopw [8] (fun i wr => ∃ k : Nat, k ≤ 4 ∧ i = .int .i64 k ∧ Blk wr gA 37 #[.int .i32 a0, .int .i32 a1, .int .i32 a2, .int .i32 a3] ∧ Blk wr gX 37 #[.int .i32 x0, .int .i32 x1, .int .i32 x2, .int .i32 x3] ∧ Below w.heap.size w wr) (fun i _ => 4 - (intOf i).toNat)
        case atStart => exact ⟨0, by omega, rfl, hA, hX, hb⟩
        case round =>
          clear hA hX hb
          obtain ⟨k, hk, rfl, hA, hX, hb⟩ := hrel
          by_cases hltk : k < 4
          · have key := (KEY.out j k hltj hltk).2.2.2.1
            have cAj : wr.cell? ⟨gA, j, none⟩ = some (.int .i32 ([a0, a1, a2, a3][j]?.getD 0)) := (hA.cell j).trans (by match j, hltj with | 0, _ => rfl | 1, _ => rfl | 2, _ => rfl | 3, _ => rfl)
            have cXj : wr.cell? ⟨gX, j, none⟩ = some (.int .i32 ([x0, x1, x2, x3][j]?.getD 0)) := (hX.cell j).trans (by match j, hltj with | 0, _ => rfl | 1, _ => rfl | 2, _ => rfl | 3, _ => rfl)
            have cAk : wr.cell? ⟨gA, k, none⟩ = some (.int .i32 ([a0, a1, a2, a3][k]?.getD 0)) := (hA.cell k).trans (by match k, hltk with | 0, _ => rfl | 1, _ => rfl | 2, _ => rfl | 3, _ => rfl)
            have cXk : wr.cell? ⟨gX, k, none⟩ = some (.int .i32 ([x0, x1, x2, x3][k]?.getD 0)) := (hX.cell k).trans (by match k, hltk with | 0, _ => rfl | 1, _ => rfl | 2, _ => rfl | 3, _ => rfl)
            have pI2 := AI2.out _ (mem4 [a0, a1, a2, a3] k hltk)
            have qI2 := XI2.out _ (mem4 [x0, x1, x2, x3] k hltk)
            rw [HP.out] at cAj key
            rw [HQ.out] at cXj key
            generalize [a0, a1, a2, a3][k]?.getD 0 = p' at *
            generalize [x0, x1, x2, x3][k]?.getD 0 = q' at *
            have t3 : (0 : Int) ≤ (k : Int) := by omega
            have t4 : (k : Int) < 4 := by omega
            have ek : IntKind.i64.wrap ((k : Int) + 1) = ((k + 1 : Nat) : Int) := (IntWalk.i64_in _ (by omega)).trans (by omega)
            have mk : 4 - (k + 1) < 4 - k := by omega
            have F0 := hid fun w => law11_far p w pI
            have F1 := hid fun w => law11_far p' w pI2
            have F2 := hid fun w => law11_far q w qI
            have F3 := hid fun w => law11_far q' w qI2
            clear pI2 qI2
            generalize absP p = P at *
            generalize absP p' = P' at *
            generalize absP q = Q at *
            generalize absP q' = Q' at *
            go_wp2
            go_cut [89] from 70 to 88 (fun x wx => x = .bool false ∧ Blk wx gA 37 #[.int .i32 a0, .int .i32 a1, .int .i32 a2, .int .i32 a3] ∧ Blk wx gX 37 #[.int .i32 x0, .int .i32 x1, .int .i32 x2, .int .i32 x3] ∧ Below w.heap.size w wx)
            case first =>
              refine wp_region_noPanic ?_
              refine wp_region_held_drew (S := fun w' : World => w'.cell? ⟨gA, j, none⟩ = some (.int .i32 p) ∧ w'.cell? ⟨gA, k, none⟩ = some (.int .i32 p') ∧ w'.cell? ⟨gX, j, none⟩ = some (.int .i32 q) ∧ w'.cell? ⟨gX, k, none⟩ = some (.int .i32 q')) (by kernel_rfl) ⟨cAj, cAk, cXj, cXk⟩ (fun hHeld => ?_)
              refine (show wpAnyH _ _ _ _ _ 20 _ _ _ from ?_)
              try (simp only [Act.put, List.setIfInBounds_toArray, List.set_cons_zero, List.set_cons_succ])
              replace hA := hA.drew
              replace hX := hX.drew
              replace hb := hb.drew
              generalize wr.drew = wd at *
              refine tk 0 hHeld ?_
              refine tk 1 hHeld ?_
              refine tk 2 hHeld ?_
              refine tk 4 hHeld ?_
              refine tk 5 hHeld ?_
              refine tk 6 hHeld ?_
              refine rd1 3 (fun K hK => ?_)
              go_simp
              refine (F0.out _).mono ?_
              rintro e w' ⟨rfl, rfl⟩
              go_wp2_with fail
              refine hK.out _ _ hHeld (fun hHeld => ?_)
              clear hK K
              try (simp only [Act.put, List.setIfInBounds_toArray, List.set_cons_zero, List.set_cons_succ])
              refine rd1 7 (fun K hK => ?_)
              go_simp
              refine (F1.out _).mono ?_
              rintro e w' ⟨rfl, rfl⟩
              go_wp2_with fail
              refine hK.out _ _ hHeld (fun hHeld => ?_)
              clear hK K
              try (simp only [Act.put, List.setIfInBounds_toArray, List.set_cons_zero, List.set_cons_succ])
              by_cases g : P' ≤ P
              · have dd : decide (P' ≤ P) = true := by simpa using g
                have de : decide (Q < Q') = false := by have := key g; simp; omega
                refine tk 8 hHeld ?_
                refine tk 9 hHeld ?_
                refine tk 10 hHeld ?_
                refine tk 11 hHeld ?_
                refine tk 12 hHeld ?_
                refine tk 14 hHeld ?_
                refine tk 15 hHeld ?_
                refine tk 16 hHeld ?_
                refine rd1 13 (fun K hK => ?_)
                go_simp
                refine (F2.out _).mono ?_
                rintro e w' ⟨rfl, rfl⟩
                go_wp2_with fail
                refine hK.out _ _ hHeld (fun hHeld => ?_)
                clear hK K
                try (simp only [Act.put, List.setIfInBounds_toArray, List.set_cons_zero, List.set_cons_succ])
                refine rd1 17 (fun K hK => ?_)
                go_simp
                refine (F3.out _).mono ?_
                rintro e w' ⟨rfl, rfl⟩
                go_wp2_with fail
                refine hK.out _ _ hHeld (fun hHeld => ?_)
                clear hK K
                try (simp only [Act.put, List.setIfInBounds_toArray, List.set_cons_zero, List.set_cons_succ])
                refine tk 18 hHeld ?_
                refine tk 19 hHeld ?_
                refine wpAnyH_done ?hra1 ?hqa1 _
                case hra1 => kernel_rfl
                refine NoPanic.normal ?_
                try go_wp2_with fail
                go_meet
                exact ⟨rfl, hA, hX, hb⟩
              · have dd : decide (P' ≤ P) = false := by simpa using g
                refine tk 8 hHeld ?_
                refine tk 9 hHeld ?_
                refine tku 10 hHeld ?_
                refine tku 11 hHeld ?_
                refine tku 12 hHeld ?_
                refine tku 13 hHeld ?_
                refine tku 14 hHeld ?_
                refine tku 15 hHeld ?_
                refine tku 16 hHeld ?_
                refine tku 17 hHeld ?_
                refine tku 18 hHeld ?_
                refine tk 19 hHeld ?_
                refine wpAnyH_done ?hra2 ?hqa2 _
                case hra2 => kernel_rfl
                refine NoPanic.normal ?_
                try go_wp2_with fail
                go_meet
                exact ⟨rfl, hA, hX, hb⟩
            case rest =>
              clear hA hX hb cAj cXj cAk cXk key
              obtain ⟨rfl, hA, hX, hb⟩ := hcut
              go_wp2
              go_round
              case rel => exact ⟨k + 1, by omega, rfl, hA, hX, hb⟩
              case measure => simpa [intOf] using mk
          · obtain rfl : k = 4 := by omega
            go_wp2
            go_round
            case rel => exact ⟨j + 1, by omega, rfl, hA, hX, hb⟩
            case measure => simpa [intOf] using mj
    · obtain rfl : j = 4 := by omega
      go_wp2_with fail
      refine (HK.out _).mono ?_
      rintro e w9 ⟨rfl, b9⟩
      go_wp2
      go_ret
      exact ⟨rfl, hb.on b9⟩
end Go.Proofs.Ytlcikfnhgldonaa
