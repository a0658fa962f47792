/- Chapter 39: what must come of a window. -/
import Derived.Test.YtbhfidneijogfaaWinK
namespace Go.Proofs.Ytbhfidneijogfaa
open Go.RowKit
set_option linter.unusedVariables false
set_option linter.unusedSimpArgs false

/-- 'make([]T, n)' under a guard, by a number that is written out: the zeros stay a letter. -/
theorem wpList_makerow_g {P : Program} {k : IntKind} {ops : Array Oper} {rest : List Oper} {o : Oper} {a : Act} {w : World} {Q : Exit → Act → World → Prop} (hgd : Region.wanted o (yielded ops a.tmps) = true) (l c : Operand) (t : TypeId) (hop : o.op = Op.makeSlice t l c)
    (e : TypeId) (i : TypeInfo) (h1 : P.underlying t = some (.slice e)) (h2 : P.info? e = some i) (h3 : i.zero = some (.int k 0)) (h4 : i.size = 1) (bytes : Nat) (h5 : i.bytes = bytes) (n : Nat) (N : Int) (hl : a.eval l = .int .i64 N) (hc : a.eval c = .int .i64 N) (hN : N = (n : Int))
    (b2 : bytes * n ≤ 281474976710656) (b3 : n ≤ 9223372036854775807)
    (h : ∀ w' (xs : List Int), xs.length = n → Blk w' w.heap.size e (xs.map (Value.int k)).toArray → w.grownBy w' none → w'.heap.size = w.heap.size + 1 → wpList P ops Q rest (a.put o.dst (.slice (some ⟨w.heap.size, 0, none⟩) n n)) w') : wpList P ops Q (o :: rest) a w := by
  subst hN
  subst h5
  refine wpList_step fun K hK => ?_
  rw [if_pos hgd]
  have hrun := run_make (P := P) w t e i (.int k 0) h1 h2 h3 .i64 .i64 n n (by omega) (by omega) (by rw [← Int.natCast_mul]; omega) (by omega)
  unfold Oper.wp
  simp [execOp, hop, hl, hc, hrun, Result.andThen]
  refine hK _ _ (h _ (List.replicate n 0) (by simp) ?_ (World.grownBy_alloc w _ none) (by simp))
  have : madeCells (Value.int k 0).cells (n * i.size) = ((List.replicate n (0 : Int)).map (Value.int k)).toArray := by
    rw [h4, Nat.mul_one]
    apply Array.ext
    · simp [size_madeCells]
    · intro j hj _
      simp [madeCells, Value.cells, Nat.mod_one]
  rw [this]
  exact Blk.new w e _

theorem l_knows (w : World) :
    Calls Try.prog 14 #[] w fun e w' => e = .returned (.bool true) ∧ Below w.heap.size w w' := by
  have HN := hid (q_New w)
  obtain ⟨i0, hi, hz, hz1, hz2⟩ := winfo_parts winfo8
  go_enter Try.func14, Try.ntmps14
  go_wp2_with fail
  refine (HN.out).mono ?_
  rintro e w1 ⟨g, rfl, hg1, hq1, hb1⟩
  go_wp2_with (at_make; refine wpList_makerow_g rfl _ _ _ rfl 5 i0 Try.underlying27 hi hz hz1 1 hz2 2000 2000 rfl rfl rfl (by decide) (by decide) ?_; intro w2 zs hzs hb2 hg2 hs2)
  have q2 : Que w2 g [] := hq1.grown hg2 (by simp)
  have b2 : Below w.heap.size w w2 := hb1.grown hg2 hb1.size (by simp)
  have lt1 := hq1.lt
  have H2 := q_Put g [] (some ⟨w1.heap.size, 0, none⟩) 2000 2000 zs (w1.heap.size + 1) w2 q2 (Nat.le_refl _) (by unfold maxLen; omega) (by
    intro w' hw'
    have hb' : Blk w' w1.heap.size 5 (zs.map (Value.int .u8)).toArray := hb2.grown hw' (by simp; omega)
    rw [← hzs]
    exact hb'.row (by omega))
  have e1 : min 2000 (1024 - ([] : List Int).length) = 1024 := rfl
  rw [e1] at H2
  refine (H2).mono ?_
  clear H2 e1
  rintro e w3 ⟨rfl, hg3, hq3⟩
  have b3 : Below w.heap.size w w3 := b2.grown hg3 b2.size (by intro k hk; cases hk; exact hg1)
  have hl : ([] ++ zs.take 1024 : List Int).length = 1024 := by simp [hzs]
  generalize ([] ++ zs.take 1024 : List Int) = q at hq3 hl
  clear hb2 hg2 hs2 hzs hg3 q2 hq1 HN b2 hb1
  go_wp2_with fail
  have b3' := b3.alloc b3.size (.cells #[.int .u8 1] 5)
  have q3 := hq3.alloc (.cells #[.int .u8 1] 5)
  have H4 := q_Put g q (some ⟨w3.heap.size, 0, none⟩) 1 1 [1] (w3.heap.size + 1) _ q3 (Nat.le_refl _) (by unfold maxLen; omega) (by
    intro w' hw'
    have := hq3.lt
    exact Row.blk ((Blk.new w3 5 #[.int .u8 1]).grown hw' (by simp; omega)) rfl (by omega))
  have e2 : min 1 (1024 - q.length) = 0 := by omega
  rw [e2] at H4
  refine (H4).mono ?_
  clear H4 e2
  rintro e w4 ⟨rfl, hg4, hq4⟩
  have b4 : Below w.heap.size w w4 := b3'.grown hg4 b3'.size (by intro k hk; cases hk; exact hg1)
  have hl4 : (q ++ [1].take 0 : List Int).length = 1024 := by simp [hl]
  generalize (q ++ [1].take 0 : List Int) = q' at hq4 hl4
  clear hg4 q3 hq3 b3 b3' hl
  go_wp2_with fail
  have H5 := q_Room g q' w4 hq4
  rw [hl4] at H5
  refine (H5).mono ?_
  clear H5
  rintro e w5 ⟨rfl, rfl⟩
  go_wp2_with fail
  have H6 := q_Drop g q' 1 w4 hq4
  rw [hl4, show min (1 : Int).toNat 1024 = 1 from rfl] at H6
  refine (H6).mono ?_
  clear H6
  rintro e w6 ⟨rfl, hg6, hq6⟩
  have b6 : Below w.heap.size w w6 := b4.grown hg6 b4.size (by intro k hk; cases hk; exact hg1)
  have hl6 : (q'.drop 1).length = 1023 := by simp [hl4]
  go_wp2_with fail
  have H7 := q_Len g (q'.drop 1) w6 hq6
  rw [hl6] at H7
  refine (H7).mono ?_
  clear H7
  rintro e w7 ⟨rfl, rfl⟩
  go_wp2
  go_ret
  exact ⟨rfl, b6⟩
end Go.Proofs.Ytbhfidneijogfaa
