/- Chapter 10: quaternions: the reference's Conj, Neg, Norm. -/
import Derived.Test.YtgmepohfkpncmaaQuatE
namespace Go.Proofs.Ytgmepohfkpncmaa
open Go.RowKit

theorem r10_Norm (a b c d : Int) (w : World) (ha : I32 a) (hb : I32 b) (hc : I32 c) (hd : I32 d) :
    Calls Try.prog 17 #[.agg #[.int .i32 a, .int .i32 b, .int .i32 c, .int .i32 d]] w fun e w' => e = .returned (.int .u64 (sqP [a, b, c, d])) ∧ Below w.heap.size w w' := by
  have H2 := hid fun (f : Nat) (w : World) (g : Nat) (h : Row .i32 w w.heap.size (some ⟨g, 0, none⟩) 4 [a, b, c, d]) => ref_Squares (some ⟨g, 0, none⟩) 4 f [a, b, c, d] w h (by unfold I32 at *; simp; omega) (by omega)
  clear ha hb hc hd
  generalize sqP [a, b, c, d] = n at *
  go_enter Try.func17, Try.ntmps17
  go_wp2_with fail
  refine (H2.out _ _ _ (by have := Row.blk (k := .i32) (xs := [a, b, c, d]) (Blk.new (w.alloc (.cells #[.int .i32 a, .int .i32 b, .int .i32 c, .int .i32 d] 23)) 21 #[.int .i32 a, .int .i32 b, .int .i32 c, .int .i32 d]) rfl (B := ((w.alloc (.cells #[.int .i32 a, .int .i32 b, .int .i32 c, .int .i32 d] 23)).alloc (.cells #[.int .i32 a, .int .i32 b, .int .i32 c, .int .i32 d] 21)).heap.size) (by simp); simpa using this)).mono ?_
  rintro e w2 ⟨rfl, b2⟩
  go_wp2
  go_ret
  exact ⟨rfl, (((Below.refl _ w).alloc (Nat.le_refl _) _).alloc (by simp) _).trans (b2.mono (by simp; omega))⟩
end Go.Proofs.Ytgmepohfkpncmaa
