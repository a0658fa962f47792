/- Chapter 10: quaternions: turned round, taken from 0, the norm. -/
import Derived.Test.YtfogjfmpgfcolaaQuatC
namespace Go.Proofs.Ytfogjfmpgfcolaa
open Go.RowKit

def Widing0 (a b c d : Int) (j l0 l1 l2 l3 : Int) : Prop :=
  (j = 0 ∧ 0 = l0 ∧ 0 = l1 ∧ 0 = l2 ∧ 0 = l3) ∨
  (j = 1 ∧ -a = l0 ∧ 0 = l1 ∧ 0 = l2 ∧ 0 = l3) ∨
  (j = 2 ∧ -a = l0 ∧ -b = l1 ∧ 0 = l2 ∧ 0 = l3) ∨
  (j = 3 ∧ -a = l0 ∧ -b = l1 ∧ -c = l2 ∧ 0 = l3) ∨
  (j = 4 ∧ -a = l0 ∧ -b = l1 ∧ -c = l2 ∧ -d = l3)
def Widing1 (a b c d : Int) (j l0 l1 l2 l3 : Int) : Prop :=
  (j = 0 ∧ 0 = l0 ∧ 0 = l1 ∧ 0 = l2 ∧ 0 = l3) ∨
  (j = 1 ∧ a = l0 ∧ 0 = l1 ∧ 0 = l2 ∧ 0 = l3) ∨
  (j = 2 ∧ a = l0 ∧ -b = l1 ∧ 0 = l2 ∧ 0 = l3) ∨
  (j = 3 ∧ a = l0 ∧ -b = l1 ∧ -c = l2 ∧ 0 = l3) ∨
  (j = 4 ∧ a = l0 ∧ -b = l1 ∧ -c = l2 ∧ -d = l3)
theorem q_Norm (a b c d : Int) (w : World) (ha : I32 a) (hb : I32 b) (hc : I32 c) (hd : I32 d) :
    Calls Try.prog 112 #[.agg #[.int .i32 a, .int .i32 b, .int .i32 c, .int .i32 d]] w fun e w' => e = .returned (.int .u64 (sqP [a, b, c, d])) ∧ Below w.heap.size w w' := by
  have H1 := hid fun w => q_list a b c d w
  have H2 := hid fun (f : Nat) (w : World) (g : Nat) (h : Row .i32 w w.heap.size (some ⟨g, 0, none⟩) 4 [a, b, c, d]) => root_Squares (some ⟨g, 0, none⟩) 4 f [a, b, c, d] w h (by unfold I32 at *; simp; omega) (by omega)
  clear ha hb hc hd
  generalize sqP [a, b, c, d] = n at *
  go_enter Try.func112, Try.ntmps112
  go_wp2_with fail
  refine (H1.out _).mono ?_
  rintro e w1 ⟨rfl, b1⟩
  have hbe : Below w.heap.size w w1 := ((Below.refl _ w).alloc (Nat.le_refl _) _).trans (b1.mono (by simp))
  clear b1
  go_wp2_with fail
  refine (H2.out _ _ _ (Row.blk (Blk.new _ _ _) rfl (by simp))).mono ?_
  rintro e w2 ⟨rfl, rfl⟩
  go_wp2
  go_ret
  exact ⟨rfl, hbe.alloc hbe.size _⟩
end Go.Proofs.Ytfogjfmpgfcolaa
