/- Chapter 12: small.Unpack: words. -/
import Derived.Test.YtfogjfmpgfcolaaSmallB
import Derived.Test.YtfogjfmpgfcolaaOwn
import Derived.Test.YtfogjfmpgfcolaaLate
import Derived.Test.YtfogjfmpgfcolaaBitsI
import Derived.Test.YtfogjfmpgfcolaaUnitB
import Derived.Test.YtfogjfmpgfcolaaRootB
import Derived.Test.YtfogjfmpgfcolaaQuatLaw
namespace Go.Proofs.Ytfogjfmpgfcolaa
open Go.RowKit
set_option linter.unusedVariables false
set_option linter.unusedSimpArgs false
attribute [local go_sem] Oper.semAt_some

theorem part_bd (n : Int) (h : 0 ≤ n ∧ n ≤ 1023) : -760735937 ≤ partP n ∧ partP n ≤ 760735937 := by
  unfold partP
  have h1 := over_near ((n - 512) * 759250125) 511 (by omega) (by omega)
  omega
def pk (p1 p2 p3 : Int) (k : Nat) : Int := [p1, p2, p3][k]?.getD 0
def cellsP (b : Nat) (p1 p2 p3 : Int) (pre : List K3) : Array Value := pre.foldl (fun cs k => cs.setIfInBounds (oth b k.1) (.int .i32 (partP (pk p1 p2 p3 k.1)))) #[.int .i32 0, .int .i32 0, .int .i32 0, .int .i32 0]
def leftP (p1 p2 p3 : Int) (pre : List K3) : Int := pre.foldl (fun s k => s - partP (pk p1 p2 p3 k.1) * partP (pk p1 p2 p3 k.1)) 1152921504606846976
theorem cellsP_app (b : Nat) (p1 p2 p3 : Int) (pre : List K3) (k : K3) : cellsP b p1 p2 p3 (pre ++ [k]) = (cellsP b p1 p2 p3 pre).setIfInBounds (oth b k.1) (.int .i32 (partP (pk p1 p2 p3 k.1))) := by simp [cellsP]
theorem leftP_app (p1 p2 p3 : Int) (pre : List K3) (k : K3) : leftP p1 p2 p3 (pre ++ [k]) = leftP p1 p2 p3 pre - partP (pk p1 p2 p3 k.1) * partP (pk p1 p2 p3 k.1) := by simp [leftP]
theorem cellsP_size (b : Nat) (p1 p2 p3 : Int) (pre : List K3) : (cellsP b p1 p2 p3 pre).size = 4 := by
  unfold cellsP
  have h : ∀ (pre : List K3) (cs : Array Value), (pre.foldl (fun cs k => cs.setIfInBounds (oth b k.1) (.int .i32 (partP (pk p1 p2 p3 k.1)))) cs).size = cs.size := by
    intro pre
    induction pre with
    | nil => intro cs; rfl
    | cons k pre ih => intro cs; rw [List.foldl_cons, ih]; simp
  rw [h]
  rfl
theorem pk_bd (p1 p2 p3 : Int) (k : Nat) (h1 : 0 ≤ p1 ∧ p1 ≤ 1023) (h2 : 0 ≤ p2 ∧ p2 ≤ 1023) (h3 : 0 ≤ p3 ∧ p3 ≤ 1023) : 0 ≤ pk p1 p2 p3 k ∧ pk p1 p2 p3 k ≤ 1023 := by
  unfold pk
  match k with
  | 0 => exact h1
  | 1 => exact h2
  | 2 => exact h3
  | _ + 3 => simp
theorem part_sq (n : Int) (h : 0 ≤ n ∧ n ≤ 1023) : 0 ≤ partP n * partP n ∧ partP n * partP n ≤ 578719165843267969 := by
  have := part_bd n h
  generalize partP n = x at *
  rcases Int.le_total 0 x with g | g
  · exact ⟨Int.mul_nonneg g g, by have := sq_le g this.2; omega⟩
  · have e : x * x = (-x) * (-x) := by rw [Int.neg_mul_neg]
    rw [e]
    exact ⟨Int.mul_nonneg (by omega) (by omega), by have := sq_le (a := -x) (by omega) (show -x ≤ 760735937 by omega); omega⟩
theorem leftP_bd (p1 p2 p3 : Int) (pre : List K3) (h1 : 0 ≤ p1 ∧ p1 ≤ 1023) (h2 : 0 ≤ p2 ∧ p2 ≤ 1023) (h3 : 0 ≤ p3 ∧ p3 ≤ 1023) (hl : pre.length ≤ 3) : -583235992922956931 ≤ leftP p1 p2 p3 pre ∧ leftP p1 p2 p3 pre ≤ 1152921504606846976 := by
  have h : ∀ (pre : List K3) (s : Int), s - 578719165843267969 * (pre.length : Int) ≤ pre.foldl (fun s k => s - partP (pk p1 p2 p3 k.1) * partP (pk p1 p2 p3 k.1)) s ∧ pre.foldl (fun s k => s - partP (pk p1 p2 p3 k.1) * partP (pk p1 p2 p3 k.1)) s ≤ s := by
    intro pre
    induction pre with
    | nil => intro s; simp
    | cons k pre ih =>
      intro s
      rw [List.foldl_cons]
      have h5 := ih (s - partP (pk p1 p2 p3 k.1) * partP (pk p1 p2 p3 k.1))
      have h6 := part_sq (pk p1 p2 p3 k.1) (pk_bd p1 p2 p3 k.1 h1 h2 h3)
      rw [List.length_cons]
      push_cast
      omega
  have := h pre 1152921504606846976
  unfold leftP
  omega
/-- Is there a quaternion? -/
def unB (p1 p2 p3 : Int) : Bool := !(decide (p1 = 0) || decide (p2 = 0) || decide (p3 = 0)) && decide (0 ≤ leftP p1 p2 p3 (upK 3))
def unC (b : Nat) (p1 p2 p3 : Int) : Array Value := (cellsP b p1 p2 p3 (upK 3)).setIfInBounds b (.int .i32 (rootP (leftP p1 p2 p3 (upK 3))))
def unV (b : Nat) (p1 p2 p3 : Int) : Array Value := if unB p1 p2 p3 = true then unC b p1 p2 p3 else #[.int .i32 0, .int .i32 0, .int .i32 0, .int .i32 0]
end Go.Proofs.Ytfogjfmpgfcolaa
