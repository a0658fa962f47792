/- Chapter 10: quaternions: the leaves. -/
import Derived.Test.YtlcikfnhgldonaaRootD
import Derived.Test.YtlcikfnhgldonaaFixE
namespace Go.Proofs.Ytlcikfnhgldonaa
open Go.RowKit

/-- A product of two parts. -/
def tmP (a b : Int) : Int := roundP (a * b) 30

theorem q_times (a b : Int) (w : World) (ha : I32 a) (hb : I32 b) :
    Calls Try.prog 53 #[.int .i32 a, .int .i32 b] w fun e w' => e = .returned (.int .i64 (tmP a b)) ∧ Below w.heap.size w w' := by
  have hm := mul_bd a b ha hb
  have H := hid fun w => fx_Round (a * b) 30 w (by unfold I64; omega) (by unfold I64; omega)
  have HT : Hid (tmP a b = roundP (a * b) 30) := rfl
  obtain ⟨a1, a2⟩ := ha
  obtain ⟨b1, b2⟩ := hb
  generalize roundP (a * b) 30 = r at *
  go_enter Try.func53, Try.ntmps53
  go_wp2_with fail
  refine (H.out _).mono ?_
  rintro e w' ⟨rfl, hb⟩
  go_wp2
  go_ret
  exact ⟨by rw [HT.out]; rfl, hb⟩

theorem q_list (a b c d : Int) (w : World) :
    Calls Try.prog 51 #[.agg #[.int .i32 a, .int .i32 b, .int .i32 c, .int .i32 d]] w fun e w' => e = .returned (.agg #[.int .i32 a, .int .i32 b, .int .i32 c, .int .i32 d]) ∧ Below w.heap.size w w' := by
  go_enter Try.func51, Try.ntmps51
  go_wp2
  simp [bodyPost, results, Try.results51, go_sem]
  exact ((Below.refl _ w).alloc (Nat.le_refl _) _).alloc (by simp) _
theorem q_One (w : World) :
    Calls Try.prog 19 #[] w fun e w' => e = .returned (.agg #[.int .i32 1073741824, .int .i32 0, .int .i32 0, .int .i32 0]) ∧ Below w.heap.size w w' := by
  go_enter Try.func19, Try.ntmps19
  go_wp2
  simp [bodyPost, results, Try.results19, go_sem]
  exact (Below.refl _ w).alloc (Nat.le_refl _) _
end Go.Proofs.Ytlcikfnhgldonaa
