/- Chapter 13: the table, and a hand that is turned. -/
import Derived.Test.YtfogjfmpgfcolaaTurn
import Derived.Deep.WholeRow
namespace Go.Proofs.Ytfogjfmpgfcolaa
open Go.RowKit
set_option linter.unusedVariables false
set_option linter.unusedSimpArgs false

def tabL : List Int := [536870912, 316933406, 167458907, 85004756, 42667331, 21354465, 10679838, 5340245, 2670163, 1335087, 667544, 333772, 166886, 83443, 41722, 20861, 10430, 5215, 2608, 1304, 652, 326, 163, 81, 41, 20, 10, 5, 3, 1, 1]
def tabP (k : Nat) : Int := tabL[k]?.getD 0
theorem tab_bd (k : Nat) : 0 ≤ tabP k ∧ tabP k ≤ 536870912 := by
  rcases Nat.lt_or_ge k 31 with h | h
  · have : ∀ k, k < 31 → 0 ≤ tabP k ∧ tabP k ≤ 536870912 := by decide
    exact this k h
  · have e : tabP k = 0 := by
      unfold tabP
      rw [List.getElem?_eq_none (by simpa [tabL] using h)]
      rfl
    omega
def tabC : Array Value := (tabL.map (Value.int .i64)).toArray
theorem tab_cell (k : Nat) (h : k < 31) : tabC[k]? = some (.int .i64 (tabP k)) := by
  have hl : k < tabL.length := h
  simp [tabC, tabP, hl]
def turnP (k : Nat) (up : Bool) (x y a : Int) : Int × Int × Int :=
  if up = true then (x - Int.tdiv y (2 ^ k), y + Int.tdiv x (2 ^ k), a - tabP k) else (x + Int.tdiv y (2 ^ k), y - Int.tdiv x (2 ^ k), a + tabP k)
theorem tdiv_le (y B D : Int) (hD : 0 < D) (h1 : -B ≤ y) (h2 : y ≤ B) : -(B / D) ≤ Int.tdiv y D ∧ Int.tdiv y D ≤ B / D := by
  rcases Int.le_total 0 y with h | h
  · rw [Int.tdiv_eq_ediv_of_nonneg h]
    have a1 := Int.ediv_le_ediv hD h2
    have a2 := Int.ediv_nonneg h (Int.le_of_lt hD)
    omega
  · have e : Int.tdiv y D = -((-y) / D) := by
      rw [← Int.tdiv_eq_ediv_of_nonneg (by omega), Int.neg_tdiv, Int.neg_neg]
    rw [e]
    have a1 := Int.ediv_le_ediv hD (show -y ≤ B by omega)
    have a2 := Int.ediv_nonneg (show 0 ≤ -y by omega) (Int.le_of_lt hD)
    omega

/-- A struct or array built of parts that are written out. -/
theorem wpList_build {P : Program} {ops : Array Oper} {rest : List Oper} {o : Oper} {a : Act} {w : World} {Q : Exit → Act → World → Prop} (hgd : o.guard = none) (t : TypeId) (parts : Array (Nat × Operand)) (hop : o.op = Op.build t parts) (cells : Array Value)
    (hb : P.built t (parts.map fun (i, x) => (i, a.eval x)).toList = some cells) (h : wpList P ops Q rest (a.put o.dst (.agg cells)) w) : wpList P ops Q (o :: rest) a w := by
  refine wpList_plain hgd fun K hK => ?_
  have hrun := run_build w t (parts.map fun (i, x) => (i, a.eval x)) cells hb
  unfold Oper.wp execOp
  simp only [hop, Sem.run_bind, Sem.run_pure, Result.andThen_ok, hrun]
  exact hK _ _ h
/-- A whole array into the block that was made last. -/
theorem wpList_storeNew {P : Program} {ops : Array Oper} {rest : List Oper} {o : Oper} {a : Act} {w : World} {Q : Exit → Act → World → Prop} (hgd : o.guard = none) (t : TypeId) (p x : Operand) (hop : o.op = Op.store t p x) (c c' : Array Value)
    (hp : a.eval p = .pointer (some ⟨w.heap.size, 0, none⟩)) (hx : a.eval x = .agg c') (hi : (P.info? t).map (·.size) = some c'.size) (ho : c.size = c'.size) (h1 : c'.all (·.oneCell') = true)
    (h' : wpList P ops Q rest (a.put o.dst (.tuple #[])) (w.alloc (.cells c' t))) : wpList P ops Q (o :: rest) a (w.alloc (.cells c t)) := by
  refine wpList_plain hgd fun K hK => ?_
  have hrun := run_storeAt_new (P := P) w t c c' hi ho h1
  unfold Oper.wp execOp
  simp only [hop, hp, hx, Sem.run_bind, Sem.run_pure, Result.andThen_ok, hrun]
  exact hK _ _ h'
set_option maxRecDepth 20000 in
theorem t_angle (k : Nat) (w : World) (h : k < 31) :
    Calls Try.prog 110 #[.int .i64 k] w fun e w' => e = .returned (.int .i64 (tabP k)) ∧ Below w.heap.size w w' := by
  have hc : (w.alloc (.cells tabC 101)).cell? ⟨w.heap.size, k, none⟩ = some (.int .i64 (tabP k)) := ((Blk.new w 101 tabC).cell k).trans (tab_cell k h)
  have k1 : (0 : Int) ≤ (k : Int) := by omega
  have k2 : (k : Int) < 31 := by omega
  generalize tabP k = T at *
  go_enter Try.func110, Try.ntmps110
  go_wp2_with (first | (refine wpList_build rfl 101 _ rfl tabC (by kernel_rfl) ?_) | (refine wpList_storeNew rfl 101 (.tmp 3) (.tmp 4) rfl _ tabC rfl rfl (by kernel_rfl) (by kernel_rfl) (by kernel_rfl) ?_))
  go_ret
  exact ⟨rfl, (Below.refl _ w).alloc (Nat.le_refl _) _⟩
set_option maxRecDepth 20000 in
theorem r13_table (k : Nat) (w : World) (h : k < 31) :
    Calls Try.prog 53 #[.int .i64 k] w fun e w' => e = .returned (.int .i64 (tabP k)) ∧ Below w.heap.size w w' := by
  have hc : (w.alloc (.cells tabC 101)).cell? ⟨w.heap.size, k, none⟩ = some (.int .i64 (tabP k)) := ((Blk.new w 101 tabC).cell k).trans (tab_cell k h)
  have k1 : (0 : Int) ≤ (k : Int) := by omega
  have k2 : (k : Int) < 31 := by omega
  generalize tabP k = T at *
  go_enter Try.func53, Try.ntmps53
  go_wp2_with (first | (refine wpList_build rfl 101 _ rfl tabC (by kernel_rfl) ?_) | (refine wpList_storeNew rfl 101 (.tmp 3) (.tmp 4) rfl _ tabC rfl rfl (by kernel_rfl) (by kernel_rfl) (by kernel_rfl) ?_))
  go_ret
  exact ⟨rfl, (Below.refl _ w).alloc (Nat.le_refl _) _⟩
end Go.Proofs.Ytfogjfmpgfcolaa
