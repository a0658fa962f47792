/- Chapter 10: quaternions: the product. -/
import Derived.Test.YtgmepohfkpncmaaGreatQuatE
import Derived.Test.YtgmepohfkpncmaaGreatHeld
import Derived.Deep.CutRange
namespace Go.Proofs.YtgmepohfkpncmaaGreat
open Go.RowKit
set_option linter.unusedVariables false

theorem tm_bd (a b : Int) (ha : I32 a) (hb : I32 b) : -4294967297 ≤ tmP a b ∧ tmP a b ≤ 4294967297 := by
 have hm := mul_bd a b ha hb
 have e : fracP 30 62 = 30 := by decide +kernel
 have e2 : (2 : Int) ^ 30 = 1073741824 := by decide +kernel
 show _ ≤ overP (a * b) (2 ^ fracP 30 62) ∧ overP (a * b) (2 ^ fracP 30 62) ≤ _
 rw [e, e2]
 generalize a * b = n at *
 unfold overP absP
 rw [if_neg (by omega : ¬ (1073741824 : Int) = 0), if_neg (by omega : ¬ (1073741824 : Int) < 0), if_neg (by omega : ¬ (1073741824 : Int) < 0)]
 split <;> omega

/-- The parts of a product, not cut. -/
def mulW (a0 a1 a2 a3 b0 b1 b2 b3 : Int) : Int := tmP a0 b0 - tmP a1 b1 - tmP a2 b2 - tmP a3 b3
def mulX (a0 a1 a2 a3 b0 b1 b2 b3 : Int) : Int := tmP a0 b1 + tmP a1 b0 + tmP a2 b3 - tmP a3 b2
def mulY (a0 a1 a2 a3 b0 b1 b2 b3 : Int) : Int := tmP a0 b2 + tmP a2 b0 + tmP a3 b1 - tmP a1 b3
def mulZ (a0 a1 a2 a3 b0 b1 b2 b3 : Int) : Int := tmP a0 b3 + tmP a3 b0 + tmP a1 b2 - tmP a2 b1
def Muls (a0 a1 a2 a3 b0 b1 b2 b3 : Int) (w : World) (e : Ending) (w' : World) : Prop :=
 e = .returned (.tuple #[.agg #[.int .i32 (clampP (mulW a0 a1 a2 a3 b0 b1 b2 b3)), .int .i32 (clampP (mulX a0 a1 a2 a3 b0 b1 b2 b3)), .int .i32 (clampP (mulY a0 a1 a2 a3 b0 b1 b2 b3)), .int .i32 (clampP (mulZ a0 a1 a2 a3 b0 b1 b2 b3))], .int .i64 (cutC (mulW a0 a1 a2 a3 b0 b1 b2 b3) + cutC (mulX a0 a1 a2 a3 b0 b1 b2 b3) + cutC (mulY a0 a1 a2 a3 b0 b1 b2 b3) + cutC (mulZ a0 a1 a2 a3 b0 b1 b2 b3))]) ∧ Below w.heap.size w w'
def Mul4 (a0 a1 a2 a3 b0 b1 b2 b3 I l0 l1 l2 l3 : Int) : Prop :=
 (I = 0 ∧ l0 = 0 ∧ l1 = 0 ∧ l2 = 0 ∧ l3 = 0) ∨
 (I = 1 ∧ l0 = 0 + tmP a0 b0 ∧ l1 = 0 + tmP a0 b1 ∧ l2 = 0 + tmP a0 b2 ∧ l3 = 0 + tmP a0 b3) ∨
 (I = 2 ∧ l0 = 0 + tmP a0 b0 - tmP a1 b1 ∧ l1 = 0 + tmP a0 b1 + tmP a1 b0 ∧ l2 = 0 + tmP a0 b2 - tmP a1 b3 ∧ l3 = 0 + tmP a0 b3 + tmP a1 b2) ∨
 (I = 3 ∧ l0 = 0 + tmP a0 b0 - tmP a1 b1 - tmP a2 b2 ∧ l1 = 0 + tmP a0 b1 + tmP a1 b0 + tmP a2 b3 ∧ l2 = 0 + tmP a0 b2 - tmP a1 b3 + tmP a2 b0 ∧ l3 = 0 + tmP a0 b3 + tmP a1 b2 - tmP a2 b1) ∨
 (I = 4 ∧ l0 = 0 + tmP a0 b0 - tmP a1 b1 - tmP a2 b2 - tmP a3 b3 ∧ l1 = 0 + tmP a0 b1 + tmP a1 b0 + tmP a2 b3 - tmP a3 b2 ∧ l2 = 0 + tmP a0 b2 - tmP a1 b3 + tmP a2 b0 + tmP a3 b1 ∧ l3 = 0 + tmP a0 b3 + tmP a1 b2 - tmP a2 b1 + tmP a3 b0)
def MulI0 (a0 a1 a2 a3 b0 b1 b2 b3 J l0 l1 l2 l3 : Int) : Prop :=
 (J = 0 ∧ l0 = 0 ∧ l1 = 0 ∧ l2 = 0 ∧ l3 = 0) ∨
 (J = 1 ∧ l0 = 0 + tmP a0 b0 ∧ l1 = 0 ∧ l2 = 0 ∧ l3 = 0) ∨
 (J = 2 ∧ l0 = 0 + tmP a0 b0 ∧ l1 = 0 + tmP a0 b1 ∧ l2 = 0 ∧ l3 = 0) ∨
 (J = 3 ∧ l0 = 0 + tmP a0 b0 ∧ l1 = 0 + tmP a0 b1 ∧ l2 = 0 + tmP a0 b2 ∧ l3 = 0) ∨
 (J = 4 ∧ l0 = 0 + tmP a0 b0 ∧ l1 = 0 + tmP a0 b1 ∧ l2 = 0 + tmP a0 b2 ∧ l3 = 0 + tmP a0 b3)
def MulI1 (a0 a1 a2 a3 b0 b1 b2 b3 J l0 l1 l2 l3 : Int) : Prop :=
 (J = 0 ∧ l0 = 0 + tmP a0 b0 ∧ l1 = 0 + tmP a0 b1 ∧ l2 = 0 + tmP a0 b2 ∧ l3 = 0 + tmP a0 b3) ∨
 (J = 1 ∧ l0 = 0 + tmP a0 b0 ∧ l1 = 0 + tmP a0 b1 + tmP a1 b0 ∧ l2 = 0 + tmP a0 b2 ∧ l3 = 0 + tmP a0 b3) ∨
 (J = 2 ∧ l0 = 0 + tmP a0 b0 - tmP a1 b1 ∧ l1 = 0 + tmP a0 b1 + tmP a1 b0 ∧ l2 = 0 + tmP a0 b2 ∧ l3 = 0 + tmP a0 b3) ∨
 (J = 3 ∧ l0 = 0 + tmP a0 b0 - tmP a1 b1 ∧ l1 = 0 + tmP a0 b1 + tmP a1 b0 ∧ l2 = 0 + tmP a0 b2 ∧ l3 = 0 + tmP a0 b3 + tmP a1 b2) ∨
 (J = 4 ∧ l0 = 0 + tmP a0 b0 - tmP a1 b1 ∧ l1 = 0 + tmP a0 b1 + tmP a1 b0 ∧ l2 = 0 + tmP a0 b2 - tmP a1 b3 ∧ l3 = 0 + tmP a0 b3 + tmP a1 b2)
def MulI2 (a0 a1 a2 a3 b0 b1 b2 b3 J l0 l1 l2 l3 : Int) : Prop :=
 (J = 0 ∧ l0 = 0 + tmP a0 b0 - tmP a1 b1 ∧ l1 = 0 + tmP a0 b1 + tmP a1 b0 ∧ l2 = 0 + tmP a0 b2 - tmP a1 b3 ∧ l3 = 0 + tmP a0 b3 + tmP a1 b2) ∨
 (J = 1 ∧ l0 = 0 + tmP a0 b0 - tmP a1 b1 ∧ l1 = 0 + tmP a0 b1 + tmP a1 b0 ∧ l2 = 0 + tmP a0 b2 - tmP a1 b3 + tmP a2 b0 ∧ l3 = 0 + tmP a0 b3 + tmP a1 b2) ∨
 (J = 2 ∧ l0 = 0 + tmP a0 b0 - tmP a1 b1 ∧ l1 = 0 + tmP a0 b1 + tmP a1 b0 ∧ l2 = 0 + tmP a0 b2 - tmP a1 b3 + tmP a2 b0 ∧ l3 = 0 + tmP a0 b3 + tmP a1 b2 - tmP a2 b1) ∨
 (J = 3 ∧ l0 = 0 + tmP a0 b0 - tmP a1 b1 - tmP a2 b2 ∧ l1 = 0 + tmP a0 b1 + tmP a1 b0 ∧ l2 = 0 + tmP a0 b2 - tmP a1 b3 + tmP a2 b0 ∧ l3 = 0 + tmP a0 b3 + tmP a1 b2 - tmP a2 b1) ∨
 (J = 4 ∧ l0 = 0 + tmP a0 b0 - tmP a1 b1 - tmP a2 b2 ∧ l1 = 0 + tmP a0 b1 + tmP a1 b0 + tmP a2 b3 ∧ l2 = 0 + tmP a0 b2 - tmP a1 b3 + tmP a2 b0 ∧ l3 = 0 + tmP a0 b3 + tmP a1 b2 - tmP a2 b1)
def MulI3 (a0 a1 a2 a3 b0 b1 b2 b3 J l0 l1 l2 l3 : Int) : Prop :=
 (J = 0 ∧ l0 = 0 + tmP a0 b0 - tmP a1 b1 - tmP a2 b2 ∧ l1 = 0 + tmP a0 b1 + tmP a1 b0 + tmP a2 b3 ∧ l2 = 0 + tmP a0 b2 - tmP a1 b3 + tmP a2 b0 ∧ l3 = 0 + tmP a0 b3 + tmP a1 b2 - tmP a2 b1) ∨
 (J = 1 ∧ l0 = 0 + tmP a0 b0 - tmP a1 b1 - tmP a2 b2 ∧ l1 = 0 + tmP a0 b1 + tmP a1 b0 + tmP a2 b3 ∧ l2 = 0 + tmP a0 b2 - tmP a1 b3 + tmP a2 b0 ∧ l3 = 0 + tmP a0 b3 + tmP a1 b2 - tmP a2 b1 + tmP a3 b0) ∨
 (J = 2 ∧ l0 = 0 + tmP a0 b0 - tmP a1 b1 - tmP a2 b2 ∧ l1 = 0 + tmP a0 b1 + tmP a1 b0 + tmP a2 b3 ∧ l2 = 0 + tmP a0 b2 - tmP a1 b3 + tmP a2 b0 + tmP a3 b1 ∧ l3 = 0 + tmP a0 b3 + tmP a1 b2 - tmP a2 b1 + tmP a3 b0) ∨
 (J = 3 ∧ l0 = 0 + tmP a0 b0 - tmP a1 b1 - tmP a2 b2 ∧ l1 = 0 + tmP a0 b1 + tmP a1 b0 + tmP a2 b3 - tmP a3 b2 ∧ l2 = 0 + tmP a0 b2 - tmP a1 b3 + tmP a2 b0 + tmP a3 b1 ∧ l3 = 0 + tmP a0 b3 + tmP a1 b2 - tmP a2 b1 + tmP a3 b0) ∨
 (J = 4 ∧ l0 = 0 + tmP a0 b0 - tmP a1 b1 - tmP a2 b2 - tmP a3 b3 ∧ l1 = 0 + tmP a0 b1 + tmP a1 b0 + tmP a2 b3 - tmP a3 b2 ∧ l2 = 0 + tmP a0 b2 - tmP a1 b3 + tmP a2 b0 + tmP a3 b1 ∧ l3 = 0 + tmP a0 b3 + tmP a1 b2 - tmP a2 b1 + tmP a3 b0)
def MulB (a0 a1 a2 a3 b0 b1 b2 b3 : Int) : Prop := (-4294967297 ≤ tmP a0 b0 ∧ tmP a0 b0 ≤ 4294967297) ∧ (-4294967297 ≤ tmP a0 b1 ∧ tmP a0 b1 ≤ 4294967297) ∧ (-4294967297 ≤ tmP a0 b2 ∧ tmP a0 b2 ≤ 4294967297) ∧ (-4294967297 ≤ tmP a0 b3 ∧ tmP a0 b3 ≤ 4294967297) ∧ (-4294967297 ≤ tmP a1 b0 ∧ tmP a1 b0 ≤ 4294967297) ∧ (-4294967297 ≤ tmP a1 b1 ∧ tmP a1 b1 ≤ 4294967297) ∧ (-4294967297 ≤ tmP a1 b2 ∧ tmP a1 b2 ≤ 4294967297) ∧ (-4294967297 ≤ tmP a1 b3 ∧ tmP a1 b3 ≤ 4294967297) ∧ (-4294967297 ≤ tmP a2 b0 ∧ tmP a2 b0 ≤ 4294967297) ∧ (-4294967297 ≤ tmP a2 b1 ∧ tmP a2 b1 ≤ 4294967297) ∧ (-4294967297 ≤ tmP a2 b2 ∧ tmP a2 b2 ≤ 4294967297) ∧ (-4294967297 ≤ tmP a2 b3 ∧ tmP a2 b3 ≤ 4294967297) ∧ (-4294967297 ≤ tmP a3 b0 ∧ tmP a3 b0 ≤ 4294967297) ∧ (-4294967297 ≤ tmP a3 b1 ∧ tmP a3 b1 ≤ 4294967297) ∧ (-4294967297 ≤ tmP a3 b2 ∧ tmP a3 b2 ≤ 4294967297) ∧ (-4294967297 ≤ tmP a3 b3 ∧ tmP a3 b3 ≤ 4294967297)
set_option linter.unusedSimpArgs false in
set_option maxHeartbeats 40000000 in
theorem q_Mul (a0 a1 a2 a3 b0 b1 b2 b3 : Int) (w : World) (ha0 : I32 a0) (ha1 : I32 a1) (ha2 : I32 a2) (ha3 : I32 a3) (hb0 : I32 b0) (hb1 : I32 b1) (hb2 : I32 b2) (hb3 : I32 b3) :
  Calls Tryz.prog 90 #[.agg #[.int .i32 a0, .int .i32 a1, .int .i32 a2, .int .i32 a3], .agg #[.int .i32 b0, .int .i32 b1, .int .i32 b2, .int .i32 b3]] w (Muls a0 a1 a2 a3 b0 b1 b2 b3 w) := by
 have HP := hid fun w => q_list a0 a1 a2 a3 w
 have HQ := hid fun w => q_list b0 b1 b2 b3 w
 have HB : Hid (MulB a0 a1 a2 a3 b0 b1 b2 b3) := ⟨tm_bd a0 b0 ha0 hb0, tm_bd a0 b1 ha0 hb1, tm_bd a0 b2 ha0 hb2, tm_bd a0 b3 ha0 hb3, tm_bd a1 b0 ha1 hb0, tm_bd a1 b1 ha1 hb1, tm_bd a1 b2 ha1 hb2, tm_bd a1 b3 ha1 hb3, tm_bd a2 b0 ha2 hb0, tm_bd a2 b1 ha2 hb1, tm_bd a2 b2 ha2 hb2, tm_bd a2 b3 ha2 hb3, tm_bd a3 b0 ha3 hb0, tm_bd a3 b1 ha3 hb1, tm_bd a3 b2 ha3 hb2, tm_bd a3 b3 ha3 hb3⟩
 have HPL := hid @q_place
 have HT00 := hid fun w => q_times a0 b0 w ha0 hb0
 have HT01 := hid fun w => q_times a0 b1 w ha0 hb1
 have HT02 := hid fun w => q_times a0 b2 w ha0 hb2
 have HT03 := hid fun w => q_times a0 b3 w ha0 hb3
 have HT10 := hid fun w => q_times a1 b0 w ha1 hb0
 have HT11 := hid fun w => q_times a1 b1 w ha1 hb1
 have HT12 := hid fun w => q_times a1 b2 w ha1 hb2
 have HT13 := hid fun w => q_times a1 b3 w ha1 hb3
 have HT20 := hid fun w => q_times a2 b0 w ha2 hb0
 have HT21 := hid fun w => q_times a2 b1 w ha2 hb1
 have HT22 := hid fun w => q_times a2 b2 w ha2 hb2
 have HT23 := hid fun w => q_times a2 b3 w ha2 hb3
 have HT30 := hid fun w => q_times a3 b0 w ha3 hb0
 have HT31 := hid fun w => q_times a3 b1 w ha3 hb1
 have HT32 := hid fun w => q_times a3 b2 w ha3 hb2
 have HT33 := hid fun w => q_times a3 b3 w ha3 hb3
 have HC : Hid (∀ w, Calls Tryz.prog 108 #[.agg #[.int .i64 (mulW a0 a1 a2 a3 b0 b1 b2 b3), .int .i64 (mulX a0 a1 a2 a3 b0 b1 b2 b3), .int .i64 (mulY a0 a1 a2 a3 b0 b1 b2 b3), .int .i64 (mulZ a0 a1 a2 a3 b0 b1 b2 b3)]] w (Muls a0 a1 a2 a3 b0 b1 b2 b3 w)) := fun w => by
  have hb := HB.out
  unfold MulB at hb
  exact q_cut _ _ _ _ w (by unfold I64 mulW; omega) (by unfold I64 mulX; omega) (by unfold I64 mulY; omega) (by unfold I64 mulZ; omega)
 have hM : Hid (∀ e w', e = .returned (.tuple #[.agg #[.int .i32 (clampP (mulW a0 a1 a2 a3 b0 b1 b2 b3)), .int .i32 (clampP (mulX a0 a1 a2 a3 b0 b1 b2 b3)), .int .i32 (clampP (mulY a0 a1 a2 a3 b0 b1 b2 b3)), .int .i32 (clampP (mulZ a0 a1 a2 a3 b0 b1 b2 b3))], .int .i64 (cutC (mulW a0 a1 a2 a3 b0 b1 b2 b3) + cutC (mulX a0 a1 a2 a3 b0 b1 b2 b3) + cutC (mulY a0 a1 a2 a3 b0 b1 b2 b3) + cutC (mulZ a0 a1 a2 a3 b0 b1 b2 b3))]) → Below w.heap.size w w' → Muls a0 a1 a2 a3 b0 b1 b2 b3 w e w') := fun e w' h1 h2 => ⟨h1, h2⟩
 clear ha0 ha1 ha2 ha3 hb0 hb1 hb2 hb3
 go_enter Tryz.func90, Tryz.ntmps90
 go_upto_region 1 with fail
 have hp : Blk (((w.alloc (.cells #[.int .i32 a0, .int .i32 a1, .int .i32 a2, .int .i32 a3] 23)).alloc (.cells #[.int .i32 b0, .int .i32 b1, .int .i32 b2, .int .i32 b3] 23)).alloc (.cells #[.int .i32 0, .int .i32 0, .int .i32 0, .int .i32 0] 23)) w.heap.size 23 #[.int .i32 a0, .int .i32 a1, .int .i32 a2, .int .i32 a3] := ((Blk.new w _ _).alloc _).alloc _
 have hq : Blk (((w.alloc (.cells #[.int .i32 a0, .int .i32 a1, .int .i32 a2, .int .i32 a3] 23)).alloc (.cells #[.int .i32 b0, .int .i32 b1, .int .i32 b2, .int .i32 b3] 23)).alloc (.cells #[.int .i32 0, .int .i32 0, .int .i32 0, .int .i32 0] 23)) (w.heap.size + 1) 23 #[.int .i32 b0, .int .i32 b1, .int .i32 b2, .int .i32 b3] := by have := (Blk.new (w.alloc (.cells #[.int .i32 a0, .int .i32 a1, .int .i32 a2, .int .i32 a3] 23)) 23 #[.int .i32 b0, .int .i32 b1, .int .i32 b2, .int .i32 b3]).alloc (.cells #[.int .i32 0, .int .i32 0, .int .i32 0, .int .i32 0] 23); simpa using this
 have hr : Blk (((w.alloc (.cells #[.int .i32 a0, .int .i32 a1, .int .i32 a2, .int .i32 a3] 23)).alloc (.cells #[.int .i32 b0, .int .i32 b1, .int .i32 b2, .int .i32 b3] 23)).alloc (.cells #[.int .i32 0, .int .i32 0, .int .i32 0, .int .i32 0] 23)) (w.heap.size + 1 + 1) 23 #[.int .i32 0, .int .i32 0, .int .i32 0, .int .i32 0] := by have := Blk.new ((w.alloc (.cells #[.int .i32 a0, .int .i32 a1, .int .i32 a2, .int .i32 a3] 23)).alloc (.cells #[.int .i32 b0, .int .i32 b1, .int .i32 b2, .int .i32 b3] 23)) 23 #[.int .i32 0, .int .i32 0, .int .i32 0, .int .i32 0]; simpa using this
 have hbe : Below w.heap.size w (((w.alloc (.cells #[.int .i32 a0, .int .i32 a1, .int .i32 a2, .int .i32 a3] 23)).alloc (.cells #[.int .i32 b0, .int .i32 b1, .int .i32 b2, .int .i32 b3] 23)).alloc (.cells #[.int .i32 0, .int .i32 0, .int .i32 0, .int .i32 0] 23)) := (((Below.refl _ w).alloc (Nat.le_refl _) _).alloc (by simp) _).alloc (by simp; omega) _
 generalize ((w.alloc (.cells #[.int .i32 a0, .int .i32 a1, .int .i32 a2, .int .i32 a3] 23)).alloc (.cells #[.int .i32 b0, .int .i32 b1, .int .i32 b2, .int .i32 b3] 23)).alloc (.cells #[.int .i32 0, .int .i32 0, .int .i32 0, .int .i32 0] 23) = W at *
 go_cut [6, 7] from 13 to 16 (fun x y wx => ∃ g h : Nat, x = .pointer (some ⟨g, 0, none⟩) ∧ y = .pointer (some ⟨h, 0, none⟩) ∧ g ≠ h ∧ Blk wx (w.heap.size + 1 + 1) 23 #[.int .i32 0, .int .i32 0, .int .i32 0, .int .i32 0] ∧ Blk wx g 94 #[.int .i32 a0, .int .i32 a1, .int .i32 a2, .int .i32 a3] ∧ Blk wx h 94 #[.int .i32 b0, .int .i32 b1, .int .i32 b2, .int .i32 b3] ∧ w.heap.size + 2 < g ∧ w.heap.size + 2 < h ∧ Below w.heap.size w wx)
 case first =>
  refine wp_region_noPanic ?_
  refine wp_region_held_drew (S := fun w' : World => w'.cell? ⟨w.heap.size, 0, none⟩ = some (.int .i32 a0) ∧ w'.cell? ⟨w.heap.size, 1, none⟩ = some (.int .i32 a1) ∧ w'.cell? ⟨w.heap.size, 2, none⟩ = some (.int .i32 a2) ∧ w'.cell? ⟨w.heap.size, 3, none⟩ = some (.int .i32 a3) ∧ w'.cell? ⟨w.heap.size + 1, 0, none⟩ = some (.int .i32 b0) ∧ w'.cell? ⟨w.heap.size + 1, 1, none⟩ = some (.int .i32 b1) ∧ w'.cell? ⟨w.heap.size + 1, 2, none⟩ = some (.int .i32 b2) ∧ w'.cell? ⟨w.heap.size + 1, 3, none⟩ = some (.int .i32 b3)) (by kernel_rfl) ⟨hp.cell 0, hp.cell 1, hp.cell 2, hp.cell 3, hq.cell 0, hq.cell 1, hq.cell 2, hq.cell 3⟩ (fun hH => ?_)
  refine (show wpAnyH _ _ _ _ _ 8 _ _ _ from ?_)
  try (simp only [Act.put, List.setIfInBounds_toArray, List.set_cons_zero, List.set_cons_succ])
  replace hp := hp.drew
  replace hq := hq.drew
  replace hr := hr.drew
  replace hbe := hbe.drew
  generalize W.drew = w0 at *
  refine tk 0 hH ?_
  refine tk 2 hH ?_
  refine rd3 1 4 5 (fun K hK => ?hc1_1) (fun K hK => ?hc1_4) (fun K hK => ?hc1_5)
  case hc1_1 =>
   go_simp
   refine (HP.out _).mono ?_
   rintro e w1_1 ⟨rfl, bb⟩
   go_wp2_with fail
   replace hp := hp.below bb hp.lt
   replace hq := hq.below bb hq.lt
   replace hr := hr.below bb hr.lt
   replace hbe := hbe.on bb
   clear bb
   refine hK.out _ _ ⟨hp.cell 0, hp.cell 1, hp.cell 2, hp.cell 3, hq.cell 0, hq.cell 1, hq.cell 2, hq.cell 3⟩ (fun hH => ?_)
   clear hK K
   try (simp only [Act.put, List.setIfInBounds_toArray, List.set_cons_zero, List.set_cons_succ])
   refine rd3 3 4 5 (fun K hK => ?hc2_3) (fun K hK => ?hc2_4) (fun K hK => ?hc2_5)
   case hc2_3 =>
    go_simp
    refine (HQ.out _).mono ?_
    rintro e w2_3 ⟨rfl, bb⟩
    go_wp2_with fail
    replace hp := hp.below bb hp.lt
    replace hq := hq.below bb hq.lt
    replace hr := hr.below bb hr.lt
    replace hbe := hbe.on bb
    clear bb
    refine hK.out _ _ ⟨hp.cell 0, hp.cell 1, hp.cell 2, hp.cell 3, hq.cell 0, hq.cell 1, hq.cell 2, hq.cell 3⟩ (fun hH => ?_)
    clear hK K
    try (simp only [Act.put, List.setIfInBounds_toArray, List.set_cons_zero, List.set_cons_succ])
    refine rd2 4 5 (fun K hK => ?hc3_4) (fun K hK => ?hc3_5)
    case hc3_4 =>
     go_simp
     try go_wp2_with fail
     have lg4 := hr.lt
     replace hp := hp.alloc (.cells #[.int .i32 0, .int .i32 0, .int .i32 0, .int .i32 0] 94)
     replace hq := hq.alloc (.cells #[.int .i32 0, .int .i32 0, .int .i32 0, .int .i32 0] 94)
     replace hr := hr.alloc (.cells #[.int .i32 0, .int .i32 0, .int .i32 0, .int .i32 0] 94)
     have h4 := Blk.new w2_3 94 #[.int .i32 0, .int .i32 0, .int .i32 0, .int .i32 0]
     replace hbe := hbe.alloc hbe.size (.cells #[.int .i32 0, .int .i32 0, .int .i32 0, .int .i32 0] 94)
     generalize w2_3.alloc (.cells #[.int .i32 0, .int .i32 0, .int .i32 0, .int .i32 0] 94) = w3_4 at *
     generalize w2_3.heap.size = g4 at *
     refine hK.out _ _ ⟨hp.cell 0, hp.cell 1, hp.cell 2, hp.cell 3, hq.cell 0, hq.cell 1, hq.cell 2, hq.cell 3⟩ (fun hH => ?_)
     clear hK K
     try (simp only [Act.put, List.setIfInBounds_toArray, List.set_cons_zero, List.set_cons_succ])
     refine rd1 5 (fun K hK => ?hc4_5)
     case hc4_5 =>
      go_simp
      try go_wp2_with fail
      have lg5 := hr.lt
      have hne := h4.lt
      replace hp := hp.alloc (.cells #[.int .i32 0, .int .i32 0, .int .i32 0, .int .i32 0] 94)
      replace hq := hq.alloc (.cells #[.int .i32 0, .int .i32 0, .int .i32 0, .int .i32 0] 94)
      replace hr := hr.alloc (.cells #[.int .i32 0, .int .i32 0, .int .i32 0, .int .i32 0] 94)
      replace h4 := h4.alloc (.cells #[.int .i32 0, .int .i32 0, .int .i32 0, .int .i32 0] 94)
      have h5 := Blk.new w3_4 94 #[.int .i32 0, .int .i32 0, .int .i32 0, .int .i32 0]
      replace hbe := hbe.alloc hbe.size (.cells #[.int .i32 0, .int .i32 0, .int .i32 0, .int .i32 0] 94)
      generalize w3_4.alloc (.cells #[.int .i32 0, .int .i32 0, .int .i32 0, .int .i32 0] 94) = w4_5 at *
      generalize w3_4.heap.size = g5 at *
      refine hK.out _ _ ⟨hp.cell 0, hp.cell 1, hp.cell 2, hp.cell 3, hq.cell 0, hq.cell 1, hq.cell 2, hq.cell 3⟩ (fun hH => ?_)
      clear hK K
      try (simp only [Act.put, List.setIfInBounds_toArray, List.set_cons_zero, List.set_cons_succ])
      refine rd1 6 (fun K hK => ?hc6_6)
      have c0 : w4_5.cell? ⟨g4, 0, none⟩ = some (.int .i32 0) := h4.cell 0
      have z0 := h4.frozen 0
      have c1 : w4_5.cell? ⟨g4, 1, none⟩ = some (.int .i32 0) := h4.cell 1
      have z1 := h4.frozen 1
      have c2 : w4_5.cell? ⟨g4, 2, none⟩ = some (.int .i32 0) := h4.cell 2
      have z2 := h4.frozen 2
      have c3 : w4_5.cell? ⟨g4, 3, none⟩ = some (.int .i32 0) := h4.cell 3
      have z3 := h4.frozen 3
      go_simp
      try go_wp2_with fail
      replace hp := ((((hp.fr g4 0 (by omega) (.int .i32 a0)).fr g4 1 (by omega) (.int .i32 a1)).fr g4 2 (by omega) (.int .i32 a2)).fr g4 3 (by omega) (.int .i32 a3))
      replace hq := ((((hq.fr g4 0 (by omega) (.int .i32 a0)).fr g4 1 (by omega) (.int .i32 a1)).fr g4 2 (by omega) (.int .i32 a2)).fr g4 3 (by omega) (.int .i32 a3))
      replace hr := ((((hr.fr g4 0 (by omega) (.int .i32 a0)).fr g4 1 (by omega) (.int .i32 a1)).fr g4 2 (by omega) (.int .i32 a2)).fr g4 3 (by omega) (.int .i32 a3))
      replace h5 := ((((h5.fr g4 0 (by omega) (.int .i32 a0)).fr g4 1 (by omega) (.int .i32 a1)).fr g4 2 (by omega) (.int .i32 a2)).fr g4 3 (by omega) (.int .i32 a3))
      replace h4 := ((((h4.set_ 0 (.int .i32 a0)).set_ 1 (.int .i32 a1)).set_ 2 (.int .i32 a2)).set_ 3 (.int .i32 a3))
      replace hbe := (((hbe.sc g4 0 (by omega) (.int .i32 a0)).sc g4 1 (by omega) (.int .i32 a1)).sc g4 2 (by omega) (.int .i32 a2)).sc g4 3 (by omega) (.int .i32 a3)
      clear c0 z0 c1 z1 c2 z2 c3 z3
      generalize ((((w4_5.setCell ⟨g4, 0, none⟩ (.int .i32 a0)).setCell ⟨g4, 1, none⟩ (.int .i32 a1)).setCell ⟨g4, 2, none⟩ (.int .i32 a2)).setCell ⟨g4, 3, none⟩ (.int .i32 a3)) = w6_6 at *
      refine hK.out _ _ ⟨hp.cell 0, hp.cell 1, hp.cell 2, hp.cell 3, hq.cell 0, hq.cell 1, hq.cell 2, hq.cell 3⟩ (fun hH => ?_)
      clear hK K
      try (simp only [Act.put, List.setIfInBounds_toArray, List.set_cons_zero, List.set_cons_succ])
      refine rd1 7 (fun K hK => ?hc7_7)
      have c0 : w6_6.cell? ⟨g5, 0, none⟩ = some (.int .i32 0) := h5.cell 0
      have z0 := h5.frozen 0
      have c1 : w6_6.cell? ⟨g5, 1, none⟩ = some (.int .i32 0) := h5.cell 1
      have z1 := h5.frozen 1
      have c2 : w6_6.cell? ⟨g5, 2, none⟩ = some (.int .i32 0) := h5.cell 2
      have z2 := h5.frozen 2
      have c3 : w6_6.cell? ⟨g5, 3, none⟩ = some (.int .i32 0) := h5.cell 3
      have z3 := h5.frozen 3
      go_simp
      try go_wp2_with fail
      replace hp := ((((hp.fr g5 0 (by omega) (.int .i32 b0)).fr g5 1 (by omega) (.int .i32 b1)).fr g5 2 (by omega) (.int .i32 b2)).fr g5 3 (by omega) (.int .i32 b3))
      replace hq := ((((hq.fr g5 0 (by omega) (.int .i32 b0)).fr g5 1 (by omega) (.int .i32 b1)).fr g5 2 (by omega) (.int .i32 b2)).fr g5 3 (by omega) (.int .i32 b3))
      replace hr := ((((hr.fr g5 0 (by omega) (.int .i32 b0)).fr g5 1 (by omega) (.int .i32 b1)).fr g5 2 (by omega) (.int .i32 b2)).fr g5 3 (by omega) (.int .i32 b3))
      replace h4 := ((((h4.fr g5 0 (by omega) (.int .i32 b0)).fr g5 1 (by omega) (.int .i32 b1)).fr g5 2 (by omega) (.int .i32 b2)).fr g5 3 (by omega) (.int .i32 b3))
      replace h5 := ((((h5.set_ 0 (.int .i32 b0)).set_ 1 (.int .i32 b1)).set_ 2 (.int .i32 b2)).set_ 3 (.int .i32 b3))
      replace hbe := (((hbe.sc g5 0 (by omega) (.int .i32 b0)).sc g5 1 (by omega) (.int .i32 b1)).sc g5 2 (by omega) (.int .i32 b2)).sc g5 3 (by omega) (.int .i32 b3)
      clear c0 z0 c1 z1 c2 z2 c3 z3
      generalize ((((w6_6.setCell ⟨g5, 0, none⟩ (.int .i32 b0)).setCell ⟨g5, 1, none⟩ (.int .i32 b1)).setCell ⟨g5, 2, none⟩ (.int .i32 b2)).setCell ⟨g5, 3, none⟩ (.int .i32 b3)) = w7_7 at *
      refine hK.out _ _ ⟨hp.cell 0, hp.cell 1, hp.cell 2, hp.cell 3, hq.cell 0, hq.cell 1, hq.cell 2, hq.cell 3⟩ (fun hH => ?_)
      clear hK K
      try (simp only [Act.put, List.setIfInBounds_toArray, List.set_cons_zero, List.set_cons_succ])
      refine wpAnyH_done ?hrz7 ?hqz7 _
      case hrz7 => kernel_rfl
      refine NoPanic.normal ?_
      try go_wp2_with fail
      go_meet
      exact ⟨g4, g5, rfl, rfl, by omega, hr, h4, h5, by omega, by omega, hbe⟩
    case hc3_5 =>
     go_simp
     try go_wp2_with fail
     have lg5 := hr.lt
     replace hp := hp.alloc (.cells #[.int .i32 0, .int .i32 0, .int .i32 0, .int .i32 0] 94)
     replace hq := hq.alloc (.cells #[.int .i32 0, .int .i32 0, .int .i32 0, .int .i32 0] 94)
     replace hr := hr.alloc (.cells #[.int .i32 0, .int .i32 0, .int .i32 0, .int .i32 0] 94)
     have h5 := Blk.new w2_3 94 #[.int .i32 0, .int .i32 0, .int .i32 0, .int .i32 0]
     replace hbe := hbe.alloc hbe.size (.cells #[.int .i32 0, .int .i32 0, .int .i32 0, .int .i32 0] 94)
     generalize w2_3.alloc (.cells #[.int .i32 0, .int .i32 0, .int .i32 0, .int .i32 0] 94) = w3_5 at *
     generalize w2_3.heap.size = g5 at *
     refine hK.out _ _ ⟨hp.cell 0, hp.cell 1, hp.cell 2, hp.cell 3, hq.cell 0, hq.cell 1, hq.cell 2, hq.cell 3⟩ (fun hH => ?_)
     clear hK K
     try (simp only [Act.put, List.setIfInBounds_toArray, List.set_cons_zero, List.set_cons_succ])
     refine rd1 4 (fun K hK => ?hc8_4)
     case hc8_4 =>
      go_simp
      try go_wp2_with fail
      have lg4 := hr.lt
      have hne := h5.lt
      replace hp := hp.alloc (.cells #[.int .i32 0, .int .i32 0, .int .i32 0, .int .i32 0] 94)
      replace hq := hq.alloc (.cells #[.int .i32 0, .int .i32 0, .int .i32 0, .int .i32 0] 94)
      replace hr := hr.alloc (.cells #[.int .i32 0, .int .i32 0, .int .i32 0, .int .i32 0] 94)
      replace h5 := h5.alloc (.cells #[.int .i32 0, .int .i32 0, .int .i32 0, .int .i32 0] 94)
      have h4 := Blk.new w3_5 94 #[.int .i32 0, .int .i32 0, .int .i32 0, .int .i32 0]
      replace hbe := hbe.alloc hbe.size (.cells #[.int .i32 0, .int .i32 0, .int .i32 0, .int .i32 0] 94)
      generalize w3_5.alloc (.cells #[.int .i32 0, .int .i32 0, .int .i32 0, .int .i32 0] 94) = w8_4 at *
      generalize w3_5.heap.size = g4 at *
      refine hK.out _ _ ⟨hp.cell 0, hp.cell 1, hp.cell 2, hp.cell 3, hq.cell 0, hq.cell 1, hq.cell 2, hq.cell 3⟩ (fun hH => ?_)
      clear hK K
      try (simp only [Act.put, List.setIfInBounds_toArray, List.set_cons_zero, List.set_cons_succ])
      refine rd1 6 (fun K hK => ?hc10_6)
      have c0 : w8_4.cell? ⟨g4, 0, none⟩ = some (.int .i32 0) := h4.cell 0
      have z0 := h4.frozen 0
      have c1 : w8_4.cell? ⟨g4, 1, none⟩ = some (.int .i32 0) := h4.cell 1
      have z1 := h4.frozen 1
      have c2 : w8_4.cell? ⟨g4, 2, none⟩ = some (.int .i32 0) := h4.cell 2
      have z2 := h4.frozen 2
      have c3 : w8_4.cell? ⟨g4, 3, none⟩ = some (.int .i32 0) := h4.cell 3
      have z3 := h4.frozen 3
      go_simp
      try go_wp2_with fail
      replace hp := ((((hp.fr g4 0 (by omega) (.int .i32 a0)).fr g4 1 (by omega) (.int .i32 a1)).fr g4 2 (by omega) (.int .i32 a2)).fr g4 3 (by omega) (.int .i32 a3))
      replace hq := ((((hq.fr g4 0 (by omega) (.int .i32 a0)).fr g4 1 (by omega) (.int .i32 a1)).fr g4 2 (by omega) (.int .i32 a2)).fr g4 3 (by omega) (.int .i32 a3))
      replace hr := ((((hr.fr g4 0 (by omega) (.int .i32 a0)).fr g4 1 (by omega) (.int .i32 a1)).fr g4 2 (by omega) (.int .i32 a2)).fr g4 3 (by omega) (.int .i32 a3))
      replace h5 := ((((h5.fr g4 0 (by omega) (.int .i32 a0)).fr g4 1 (by omega) (.int .i32 a1)).fr g4 2 (by omega) (.int .i32 a2)).fr g4 3 (by omega) (.int .i32 a3))
      replace h4 := ((((h4.set_ 0 (.int .i32 a0)).set_ 1 (.int .i32 a1)).set_ 2 (.int .i32 a2)).set_ 3 (.int .i32 a3))
      replace hbe := (((hbe.sc g4 0 (by omega) (.int .i32 a0)).sc g4 1 (by omega) (.int .i32 a1)).sc g4 2 (by omega) (.int .i32 a2)).sc g4 3 (by omega) (.int .i32 a3)
      clear c0 z0 c1 z1 c2 z2 c3 z3
      generalize ((((w8_4.setCell ⟨g4, 0, none⟩ (.int .i32 a0)).setCell ⟨g4, 1, none⟩ (.int .i32 a1)).setCell ⟨g4, 2, none⟩ (.int .i32 a2)).setCell ⟨g4, 3, none⟩ (.int .i32 a3)) = w10_6 at *
      refine hK.out _ _ ⟨hp.cell 0, hp.cell 1, hp.cell 2, hp.cell 3, hq.cell 0, hq.cell 1, hq.cell 2, hq.cell 3⟩ (fun hH => ?_)
      clear hK K
      try (simp only [Act.put, List.setIfInBounds_toArray, List.set_cons_zero, List.set_cons_succ])
      refine rd1 7 (fun K hK => ?hc11_7)
      have c0 : w10_6.cell? ⟨g5, 0, none⟩ = some (.int .i32 0) := h5.cell 0
      have z0 := h5.frozen 0
      have c1 : w10_6.cell? ⟨g5, 1, none⟩ = some (.int .i32 0) := h5.cell 1
      have z1 := h5.frozen 1
      have c2 : w10_6.cell? ⟨g5, 2, none⟩ = some (.int .i32 0) := h5.cell 2
      have z2 := h5.frozen 2
      have c3 : w10_6.cell? ⟨g5, 3, none⟩ = some (.int .i32 0) := h5.cell 3
      have z3 := h5.frozen 3
      go_simp
      try go_wp2_with fail
      replace hp := ((((hp.fr g5 0 (by omega) (.int .i32 b0)).fr g5 1 (by omega) (.int .i32 b1)).fr g5 2 (by omega) (.int .i32 b2)).fr g5 3 (by omega) (.int .i32 b3))
      replace hq := ((((hq.fr g5 0 (by omega) (.int .i32 b0)).fr g5 1 (by omega) (.int .i32 b1)).fr g5 2 (by omega) (.int .i32 b2)).fr g5 3 (by omega) (.int .i32 b3))
      replace hr := ((((hr.fr g5 0 (by omega) (.int .i32 b0)).fr g5 1 (by omega) (.int .i32 b1)).fr g5 2 (by omega) (.int .i32 b2)).fr g5 3 (by omega) (.int .i32 b3))
      replace h4 := ((((h4.fr g5 0 (by omega) (.int .i32 b0)).fr g5 1 (by omega) (.int .i32 b1)).fr g5 2 (by omega) (.int .i32 b2)).fr g5 3 (by omega) (.int .i32 b3))
      replace h5 := ((((h5.set_ 0 (.int .i32 b0)).set_ 1 (.int .i32 b1)).set_ 2 (.int .i32 b2)).set_ 3 (.int .i32 b3))
      replace hbe := (((hbe.sc g5 0 (by omega) (.int .i32 b0)).sc g5 1 (by omega) (.int .i32 b1)).sc g5 2 (by omega) (.int .i32 b2)).sc g5 3 (by omega) (.int .i32 b3)
      clear c0 z0 c1 z1 c2 z2 c3 z3
      generalize ((((w10_6.setCell ⟨g5, 0, none⟩ (.int .i32 b0)).setCell ⟨g5, 1, none⟩ (.int .i32 b1)).setCell ⟨g5, 2, none⟩ (.int .i32 b2)).setCell ⟨g5, 3, none⟩ (.int .i32 b3)) = w11_7 at *
      refine hK.out _ _ ⟨hp.cell 0, hp.cell 1, hp.cell 2, hp.cell 3, hq.cell 0, hq.cell 1, hq.cell 2, hq.cell 3⟩ (fun hH => ?_)
      clear hK K
      try (simp only [Act.put, List.setIfInBounds_toArray, List.set_cons_zero, List.set_cons_succ])
      refine wpAnyH_done ?hrz11 ?hqz11 _
      case hrz11 => kernel_rfl
      refine NoPanic.normal ?_
      try go_wp2_with fail
      go_meet
      exact ⟨g4, g5, rfl, rfl, by omega, hr, h4, h5, by omega, by omega, hbe⟩
   case hc2_4 =>
    go_simp
    try go_wp2_with fail
    have lg4 := hr.lt
    replace hp := hp.alloc (.cells #[.int .i32 0, .int .i32 0, .int .i32 0, .int .i32 0] 94)
    replace hq := hq.alloc (.cells #[.int .i32 0, .int .i32 0, .int .i32 0, .int .i32 0] 94)
    replace hr := hr.alloc (.cells #[.int .i32 0, .int .i32 0, .int .i32 0, .int .i32 0] 94)
    have h4 := Blk.new w1_1 94 #[.int .i32 0, .int .i32 0, .int .i32 0, .int .i32 0]
    replace hbe := hbe.alloc hbe.size (.cells #[.int .i32 0, .int .i32 0, .int .i32 0, .int .i32 0] 94)
    generalize w1_1.alloc (.cells #[.int .i32 0, .int .i32 0, .int .i32 0, .int .i32 0] 94) = w2_4 at *
    generalize w1_1.heap.size = g4 at *
    refine hK.out _ _ ⟨hp.cell 0, hp.cell 1, hp.cell 2, hp.cell 3, hq.cell 0, hq.cell 1, hq.cell 2, hq.cell 3⟩ (fun hH => ?_)
    clear hK K
    try (simp only [Act.put, List.setIfInBounds_toArray, List.set_cons_zero, List.set_cons_succ])
    refine rd2 3 5 (fun K hK => ?hc12_3) (fun K hK => ?hc12_5)
    case hc12_3 =>
     go_simp
     refine (HQ.out _).mono ?_
     rintro e w12_3 ⟨rfl, bb⟩
     go_wp2_with fail
     replace hp := hp.below bb hp.lt
     replace hq := hq.below bb hq.lt
     replace hr := hr.below bb hr.lt
     replace h4 := h4.below bb h4.lt
     replace hbe := hbe.on bb
     clear bb
     refine hK.out _ _ ⟨hp.cell 0, hp.cell 1, hp.cell 2, hp.cell 3, hq.cell 0, hq.cell 1, hq.cell 2, hq.cell 3⟩ (fun hH => ?_)
     clear hK K
     try (simp only [Act.put, List.setIfInBounds_toArray, List.set_cons_zero, List.set_cons_succ])
     refine rd1 5 (fun K hK => ?hc13_5)
     case hc13_5 =>
      go_simp
      try go_wp2_with fail
      have lg5 := hr.lt
      have hne := h4.lt
      replace hp := hp.alloc (.cells #[.int .i32 0, .int .i32 0, .int .i32 0, .int .i32 0] 94)
      replace hq := hq.alloc (.cells #[.int .i32 0, .int .i32 0, .int .i32 0, .int .i32 0] 94)
      replace hr := hr.alloc (.cells #[.int .i32 0, .int .i32 0, .int .i32 0, .int .i32 0] 94)
      replace h4 := h4.alloc (.cells #[.int .i32 0, .int .i32 0, .int .i32 0, .int .i32 0] 94)
      have h5 := Blk.new w12_3 94 #[.int .i32 0, .int .i32 0, .int .i32 0, .int .i32 0]
      replace hbe := hbe.alloc hbe.size (.cells #[.int .i32 0, .int .i32 0, .int .i32 0, .int .i32 0] 94)
      generalize w12_3.alloc (.cells #[.int .i32 0, .int .i32 0, .int .i32 0, .int .i32 0] 94) = w13_5 at *
      generalize w12_3.heap.size = g5 at *
      refine hK.out _ _ ⟨hp.cell 0, hp.cell 1, hp.cell 2, hp.cell 3, hq.cell 0, hq.cell 1, hq.cell 2, hq.cell 3⟩ (fun hH => ?_)
      clear hK K
      try (simp only [Act.put, List.setIfInBounds_toArray, List.set_cons_zero, List.set_cons_succ])
      refine rd1 6 (fun K hK => ?hc15_6)
      have c0 : w13_5.cell? ⟨g4, 0, none⟩ = some (.int .i32 0) := h4.cell 0
      have z0 := h4.frozen 0
      have c1 : w13_5.cell? ⟨g4, 1, none⟩ = some (.int .i32 0) := h4.cell 1
      have z1 := h4.frozen 1
      have c2 : w13_5.cell? ⟨g4, 2, none⟩ = some (.int .i32 0) := h4.cell 2
      have z2 := h4.frozen 2
      have c3 : w13_5.cell? ⟨g4, 3, none⟩ = some (.int .i32 0) := h4.cell 3
      have z3 := h4.frozen 3
      go_simp
      try go_wp2_with fail
      replace hp := ((((hp.fr g4 0 (by omega) (.int .i32 a0)).fr g4 1 (by omega) (.int .i32 a1)).fr g4 2 (by omega) (.int .i32 a2)).fr g4 3 (by omega) (.int .i32 a3))
      replace hq := ((((hq.fr g4 0 (by omega) (.int .i32 a0)).fr g4 1 (by omega) (.int .i32 a1)).fr g4 2 (by omega) (.int .i32 a2)).fr g4 3 (by omega) (.int .i32 a3))
      replace hr := ((((hr.fr g4 0 (by omega) (.int .i32 a0)).fr g4 1 (by omega) (.int .i32 a1)).fr g4 2 (by omega) (.int .i32 a2)).fr g4 3 (by omega) (.int .i32 a3))
      replace h5 := ((((h5.fr g4 0 (by omega) (.int .i32 a0)).fr g4 1 (by omega) (.int .i32 a1)).fr g4 2 (by omega) (.int .i32 a2)).fr g4 3 (by omega) (.int .i32 a3))
      replace h4 := ((((h4.set_ 0 (.int .i32 a0)).set_ 1 (.int .i32 a1)).set_ 2 (.int .i32 a2)).set_ 3 (.int .i32 a3))
      replace hbe := (((hbe.sc g4 0 (by omega) (.int .i32 a0)).sc g4 1 (by omega) (.int .i32 a1)).sc g4 2 (by omega) (.int .i32 a2)).sc g4 3 (by omega) (.int .i32 a3)
      clear c0 z0 c1 z1 c2 z2 c3 z3
      generalize ((((w13_5.setCell ⟨g4, 0, none⟩ (.int .i32 a0)).setCell ⟨g4, 1, none⟩ (.int .i32 a1)).setCell ⟨g4, 2, none⟩ (.int .i32 a2)).setCell ⟨g4, 3, none⟩ (.int .i32 a3)) = w15_6 at *
      refine hK.out _ _ ⟨hp.cell 0, hp.cell 1, hp.cell 2, hp.cell 3, hq.cell 0, hq.cell 1, hq.cell 2, hq.cell 3⟩ (fun hH => ?_)
      clear hK K
      try (simp only [Act.put, List.setIfInBounds_toArray, List.set_cons_zero, List.set_cons_succ])
      refine rd1 7 (fun K hK => ?hc16_7)
      have c0 : w15_6.cell? ⟨g5, 0, none⟩ = some (.int .i32 0) := h5.cell 0
      have z0 := h5.frozen 0
      have c1 : w15_6.cell? ⟨g5, 1, none⟩ = some (.int .i32 0) := h5.cell 1
      have z1 := h5.frozen 1
      have c2 : w15_6.cell? ⟨g5, 2, none⟩ = some (.int .i32 0) := h5.cell 2
      have z2 := h5.frozen 2
      have c3 : w15_6.cell? ⟨g5, 3, none⟩ = some (.int .i32 0) := h5.cell 3
      have z3 := h5.frozen 3
      go_simp
      try go_wp2_with fail
      replace hp := ((((hp.fr g5 0 (by omega) (.int .i32 b0)).fr g5 1 (by omega) (.int .i32 b1)).fr g5 2 (by omega) (.int .i32 b2)).fr g5 3 (by omega) (.int .i32 b3))
      replace hq := ((((hq.fr g5 0 (by omega) (.int .i32 b0)).fr g5 1 (by omega) (.int .i32 b1)).fr g5 2 (by omega) (.int .i32 b2)).fr g5 3 (by omega) (.int .i32 b3))
      replace hr := ((((hr.fr g5 0 (by omega) (.int .i32 b0)).fr g5 1 (by omega) (.int .i32 b1)).fr g5 2 (by omega) (.int .i32 b2)).fr g5 3 (by omega) (.int .i32 b3))
      replace h4 := ((((h4.fr g5 0 (by omega) (.int .i32 b0)).fr g5 1 (by omega) (.int .i32 b1)).fr g5 2 (by omega) (.int .i32 b2)).fr g5 3 (by omega) (.int .i32 b3))
      replace h5 := ((((h5.set_ 0 (.int .i32 b0)).set_ 1 (.int .i32 b1)).set_ 2 (.int .i32 b2)).set_ 3 (.int .i32 b3))
      replace hbe := (((hbe.sc g5 0 (by omega) (.int .i32 b0)).sc g5 1 (by omega) (.int .i32 b1)).sc g5 2 (by omega) (.int .i32 b2)).sc g5 3 (by omega) (.int .i32 b3)
      clear c0 z0 c1 z1 c2 z2 c3 z3
      generalize ((((w15_6.setCell ⟨g5, 0, none⟩ (.int .i32 b0)).setCell ⟨g5, 1, none⟩ (.int .i32 b1)).setCell ⟨g5, 2, none⟩ (.int .i32 b2)).setCell ⟨g5, 3, none⟩ (.int .i32 b3)) = w16_7 at *
      refine hK.out _ _ ⟨hp.cell 0, hp.cell 1, hp.cell 2, hp.cell 3, hq.cell 0, hq.cell 1, hq.cell 2, hq.cell 3⟩ (fun hH => ?_)
      clear hK K
      try (simp only [Act.put, List.setIfInBounds_toArray, List.set_cons_zero, List.set_cons_succ])
      refine wpAnyH_done ?hrz16 ?hqz16 _
      case hrz16 => kernel_rfl
      refine NoPanic.normal ?_
      try go_wp2_with fail
      go_meet
      exact ⟨g4, g5, rfl, rfl, by omega, hr, h4, h5, by omega, by omega, hbe⟩
    case hc12_5 =>
     go_simp
     try go_wp2_with fail
     have lg5 := hr.lt
     have hne := h4.lt
     replace hp := hp.alloc (.cells #[.int .i32 0, .int .i32 0, .int .i32 0, .int .i32 0] 94)
     replace hq := hq.alloc (.cells #[.int .i32 0, .int .i32 0, .int .i32 0, .int .i32 0] 94)
     replace hr := hr.alloc (.cells #[.int .i32 0, .int .i32 0, .int .i32 0, .int .i32 0] 94)
     replace h4 := h4.alloc (.cells #[.int .i32 0, .int .i32 0, .int .i32 0, .int .i32 0] 94)
     have h5 := Blk.new w2_4 94 #[.int .i32 0, .int .i32 0, .int .i32 0, .int .i32 0]
     replace hbe := hbe.alloc hbe.size (.cells #[.int .i32 0, .int .i32 0, .int .i32 0, .int .i32 0] 94)
     generalize w2_4.alloc (.cells #[.int .i32 0, .int .i32 0, .int .i32 0, .int .i32 0] 94) = w12_5 at *
     generalize w2_4.heap.size = g5 at *
     refine hK.out _ _ ⟨hp.cell 0, hp.cell 1, hp.cell 2, hp.cell 3, hq.cell 0, hq.cell 1, hq.cell 2, hq.cell 3⟩ (fun hH => ?_)
     clear hK K
     try (simp only [Act.put, List.setIfInBounds_toArray, List.set_cons_zero, List.set_cons_succ])
     refine rd1 3 (fun K hK => ?hc17_3)
     case hc17_3 =>
      go_simp
      refine (HQ.out _).mono ?_
      rintro e w17_3 ⟨rfl, bb⟩
      go_wp2_with fail
      replace hp := hp.below bb hp.lt
      replace hq := hq.below bb hq.lt
      replace hr := hr.below bb hr.lt
      replace h4 := h4.below bb h4.lt
      replace h5 := h5.below bb h5.lt
      replace hbe := hbe.on bb
      clear bb
      refine hK.out _ _ ⟨hp.cell 0, hp.cell 1, hp.cell 2, hp.cell 3, hq.cell 0, hq.cell 1, hq.cell 2, hq.cell 3⟩ (fun hH => ?_)
      clear hK K
      try (simp only [Act.put, List.setIfInBounds_toArray, List.set_cons_zero, List.set_cons_succ])
      refine rd1 6 (fun K hK => ?hc19_6)
      have c0 : w17_3.cell? ⟨g4, 0, none⟩ = some (.int .i32 0) := h4.cell 0
      have z0 := h4.frozen 0
      have c1 : w17_3.cell? ⟨g4, 1, none⟩ = some (.int .i32 0) := h4.cell 1
      have z1 := h4.frozen 1
      have c2 : w17_3.cell? ⟨g4, 2, none⟩ = some (.int .i32 0) := h4.cell 2
      have z2 := h4.frozen 2
      have c3 : w17_3.cell? ⟨g4, 3, none⟩ = some (.int .i32 0) := h4.cell 3
      have z3 := h4.frozen 3
      go_simp
      try go_wp2_with fail
      replace hp := ((((hp.fr g4 0 (by omega) (.int .i32 a0)).fr g4 1 (by omega) (.int .i32 a1)).fr g4 2 (by omega) (.int .i32 a2)).fr g4 3 (by omega) (.int .i32 a3))
      replace hq := ((((hq.fr g4 0 (by omega) (.int .i32 a0)).fr g4 1 (by omega) (.int .i32 a1)).fr g4 2 (by omega) (.int .i32 a2)).fr g4 3 (by omega) (.int .i32 a3))
      replace hr := ((((hr.fr g4 0 (by omega) (.int .i32 a0)).fr g4 1 (by omega) (.int .i32 a1)).fr g4 2 (by omega) (.int .i32 a2)).fr g4 3 (by omega) (.int .i32 a3))
      replace h5 := ((((h5.fr g4 0 (by omega) (.int .i32 a0)).fr g4 1 (by omega) (.int .i32 a1)).fr g4 2 (by omega) (.int .i32 a2)).fr g4 3 (by omega) (.int .i32 a3))
      replace h4 := ((((h4.set_ 0 (.int .i32 a0)).set_ 1 (.int .i32 a1)).set_ 2 (.int .i32 a2)).set_ 3 (.int .i32 a3))
      replace hbe := (((hbe.sc g4 0 (by omega) (.int .i32 a0)).sc g4 1 (by omega) (.int .i32 a1)).sc g4 2 (by omega) (.int .i32 a2)).sc g4 3 (by omega) (.int .i32 a3)
      clear c0 z0 c1 z1 c2 z2 c3 z3
      generalize ((((w17_3.setCell ⟨g4, 0, none⟩ (.int .i32 a0)).setCell ⟨g4, 1, none⟩ (.int .i32 a1)).setCell ⟨g4, 2, none⟩ (.int .i32 a2)).setCell ⟨g4, 3, none⟩ (.int .i32 a3)) = w19_6 at *
      refine hK.out _ _ ⟨hp.cell 0, hp.cell 1, hp.cell 2, hp.cell 3, hq.cell 0, hq.cell 1, hq.cell 2, hq.cell 3⟩ (fun hH => ?_)
      clear hK K
      try (simp only [Act.put, List.setIfInBounds_toArray, List.set_cons_zero, List.set_cons_succ])
      refine rd1 7 (fun K hK => ?hc20_7)
      have c0 : w19_6.cell? ⟨g5, 0, none⟩ = some (.int .i32 0) := h5.cell 0
      have z0 := h5.frozen 0
      have c1 : w19_6.cell? ⟨g5, 1, none⟩ = some (.int .i32 0) := h5.cell 1
      have z1 := h5.frozen 1
      have c2 : w19_6.cell? ⟨g5, 2, none⟩ = some (.int .i32 0) := h5.cell 2
      have z2 := h5.frozen 2
      have c3 : w19_6.cell? ⟨g5, 3, none⟩ = some (.int .i32 0) := h5.cell 3
      have z3 := h5.frozen 3
      go_simp
      try go_wp2_with fail
      replace hp := ((((hp.fr g5 0 (by omega) (.int .i32 b0)).fr g5 1 (by omega) (.int .i32 b1)).fr g5 2 (by omega) (.int .i32 b2)).fr g5 3 (by omega) (.int .i32 b3))
      replace hq := ((((hq.fr g5 0 (by omega) (.int .i32 b0)).fr g5 1 (by omega) (.int .i32 b1)).fr g5 2 (by omega) (.int .i32 b2)).fr g5 3 (by omega) (.int .i32 b3))
      replace hr := ((((hr.fr g5 0 (by omega) (.int .i32 b0)).fr g5 1 (by omega) (.int .i32 b1)).fr g5 2 (by omega) (.int .i32 b2)).fr g5 3 (by omega) (.int .i32 b3))
      replace h4 := ((((h4.fr g5 0 (by omega) (.int .i32 b0)).fr g5 1 (by omega) (.int .i32 b1)).fr g5 2 (by omega) (.int .i32 b2)).fr g5 3 (by omega) (.int .i32 b3))
      replace h5 := ((((h5.set_ 0 (.int .i32 b0)).set_ 1 (.int .i32 b1)).set_ 2 (.int .i32 b2)).set_ 3 (.int .i32 b3))
      replace hbe := (((hbe.sc g5 0 (by omega) (.int .i32 b0)).sc g5 1 (by omega) (.int .i32 b1)).sc g5 2 (by omega) (.int .i32 b2)).sc g5 3 (by omega) (.int .i32 b3)
      clear c0 z0 c1 z1 c2 z2 c3 z3
      generalize ((((w19_6.setCell ⟨g5, 0, none⟩ (.int .i32 b0)).setCell ⟨g5, 1, none⟩ (.int .i32 b1)).setCell ⟨g5, 2, none⟩ (.int .i32 b2)).setCell ⟨g5, 3, none⟩ (.int .i32 b3)) = w20_7 at *
      refine hK.out _ _ ⟨hp.cell 0, hp.cell 1, hp.cell 2, hp.cell 3, hq.cell 0, hq.cell 1, hq.cell 2, hq.cell 3⟩ (fun hH => ?_)
      clear hK K
      try (simp only [Act.put, List.setIfInBounds_toArray, List.set_cons_zero, List.set_cons_succ])
      refine wpAnyH_done ?hrz20 ?hqz20 _
      case hrz20 => kernel_rfl
      refine NoPanic.normal ?_
      try go_wp2_with fail
      go_meet
      exact ⟨g4, g5, rfl, rfl, by omega, hr, h4, h5, by omega, by omega, hbe⟩
   case hc2_5 =>
    go_simp
    try go_wp2_with fail
    have lg5 := hr.lt
    replace hp := hp.alloc (.cells #[.int .i32 0, .int .i32 0, .int .i32 0, .int .i32 0] 94)
    replace hq := hq.alloc (.cells #[.int .i32 0, .int .i32 0, .int .i32 0, .int .i32 0] 94)
    replace hr := hr.alloc (.cells #[.int .i32 0, .int .i32 0, .int .i32 0, .int .i32 0] 94)
    have h5 := Blk.new w1_1 94 #[.int .i32 0, .int .i32 0, .int .i32 0, .int .i32 0]
    replace hbe := hbe.alloc hbe.size (.cells #[.int .i32 0, .int .i32 0, .int .i32 0, .int .i32 0] 94)
    generalize w1_1.alloc (.cells #[.int .i32 0, .int .i32 0, .int .i32 0, .int .i32 0] 94) = w2_5 at *
    generalize w1_1.heap.size = g5 at *
    refine hK.out _ _ ⟨hp.cell 0, hp.cell 1, hp.cell 2, hp.cell 3, hq.cell 0, hq.cell 1, hq.cell 2, hq.cell 3⟩ (fun hH => ?_)
    clear hK K
    try (simp only [Act.put, List.setIfInBounds_toArray, List.set_cons_zero, List.set_cons_succ])
    refine rd2 3 4 (fun K hK => ?hc21_3) (fun K hK => ?hc21_4)
    case hc21_3 =>
     go_simp
     refine (HQ.out _).mono ?_
     rintro e w21_3 ⟨rfl, bb⟩
     go_wp2_with fail
     replace hp := hp.below bb hp.lt
     replace hq := hq.below bb hq.lt
     replace hr := hr.below bb hr.lt
     replace h5 := h5.below bb h5.lt
     replace hbe := hbe.on bb
     clear bb
     refine hK.out _ _ ⟨hp.cell 0, hp.cell 1, hp.cell 2, hp.cell 3, hq.cell 0, hq.cell 1, hq.cell 2, hq.cell 3⟩ (fun hH => ?_)
     clear hK K
     try (simp only [Act.put, List.setIfInBounds_toArray, List.set_cons_zero, List.set_cons_succ])
     refine rd1 4 (fun K hK => ?hc22_4)
     case hc22_4 =>
      go_simp
      try go_wp2_with fail
      have lg4 := hr.lt
      have hne := h5.lt
      replace hp := hp.alloc (.cells #[.int .i32 0, .int .i32 0, .int .i32 0, .int .i32 0] 94)
      replace hq := hq.alloc (.cells #[.int .i32 0, .int .i32 0, .int .i32 0, .int .i32 0] 94)
      replace hr := hr.alloc (.cells #[.int .i32 0, .int .i32 0, .int .i32 0, .int .i32 0] 94)
      replace h5 := h5.alloc (.cells #[.int .i32 0, .int .i32 0, .int .i32 0, .int .i32 0] 94)
      have h4 := Blk.new w21_3 94 #[.int .i32 0, .int .i32 0, .int .i32 0, .int .i32 0]
      replace hbe := hbe.alloc hbe.size (.cells #[.int .i32 0, .int .i32 0, .int .i32 0, .int .i32 0] 94)
      generalize w21_3.alloc (.cells #[.int .i32 0, .int .i32 0, .int .i32 0, .int .i32 0] 94) = w22_4 at *
      generalize w21_3.heap.size = g4 at *
      refine hK.out _ _ ⟨hp.cell 0, hp.cell 1, hp.cell 2, hp.cell 3, hq.cell 0, hq.cell 1, hq.cell 2, hq.cell 3⟩ (fun hH => ?_)
      clear hK K
      try (simp only [Act.put, List.setIfInBounds_toArray, List.set_cons_zero, List.set_cons_succ])
      refine rd1 6 (fun K hK => ?hc24_6)
      have c0 : w22_4.cell? ⟨g4, 0, none⟩ = some (.int .i32 0) := h4.cell 0
      have z0 := h4.frozen 0
      have c1 : w22_4.cell? ⟨g4, 1, none⟩ = some (.int .i32 0) := h4.cell 1
      have z1 := h4.frozen 1
      have c2 : w22_4.cell? ⟨g4, 2, none⟩ = some (.int .i32 0) := h4.cell 2
      have z2 := h4.frozen 2
      have c3 : w22_4.cell? ⟨g4, 3, none⟩ = some (.int .i32 0) := h4.cell 3
      have z3 := h4.frozen 3
      go_simp
      try go_wp2_with fail
      replace hp := ((((hp.fr g4 0 (by omega) (.int .i32 a0)).fr g4 1 (by omega) (.int .i32 a1)).fr g4 2 (by omega) (.int .i32 a2)).fr g4 3 (by omega) (.int .i32 a3))
      replace hq := ((((hq.fr g4 0 (by omega) (.int .i32 a0)).fr g4 1 (by omega) (.int .i32 a1)).fr g4 2 (by omega) (.int .i32 a2)).fr g4 3 (by omega) (.int .i32 a3))
      replace hr := ((((hr.fr g4 0 (by omega) (.int .i32 a0)).fr g4 1 (by omega) (.int .i32 a1)).fr g4 2 (by omega) (.int .i32 a2)).fr g4 3 (by omega) (.int .i32 a3))
      replace h5 := ((((h5.fr g4 0 (by omega) (.int .i32 a0)).fr g4 1 (by omega) (.int .i32 a1)).fr g4 2 (by omega) (.int .i32 a2)).fr g4 3 (by omega) (.int .i32 a3))
      replace h4 := ((((h4.set_ 0 (.int .i32 a0)).set_ 1 (.int .i32 a1)).set_ 2 (.int .i32 a2)).set_ 3 (.int .i32 a3))
      replace hbe := (((hbe.sc g4 0 (by omega) (.int .i32 a0)).sc g4 1 (by omega) (.int .i32 a1)).sc g4 2 (by omega) (.int .i32 a2)).sc g4 3 (by omega) (.int .i32 a3)
      clear c0 z0 c1 z1 c2 z2 c3 z3
      generalize ((((w22_4.setCell ⟨g4, 0, none⟩ (.int .i32 a0)).setCell ⟨g4, 1, none⟩ (.int .i32 a1)).setCell ⟨g4, 2, none⟩ (.int .i32 a2)).setCell ⟨g4, 3, none⟩ (.int .i32 a3)) = w24_6 at *
      refine hK.out _ _ ⟨hp.cell 0, hp.cell 1, hp.cell 2, hp.cell 3, hq.cell 0, hq.cell 1, hq.cell 2, hq.cell 3⟩ (fun hH => ?_)
      clear hK K
      try (simp only [Act.put, List.setIfInBounds_toArray, List.set_cons_zero, List.set_cons_succ])
      refine rd1 7 (fun K hK => ?hc25_7)
      have c0 : w24_6.cell? ⟨g5, 0, none⟩ = some (.int .i32 0) := h5.cell 0
      have z0 := h5.frozen 0
      have c1 : w24_6.cell? ⟨g5, 1, none⟩ = some (.int .i32 0) := h5.cell 1
      have z1 := h5.frozen 1
      have c2 : w24_6.cell? ⟨g5, 2, none⟩ = some (.int .i32 0) := h5.cell 2
      have z2 := h5.frozen 2
      have c3 : w24_6.cell? ⟨g5, 3, none⟩ = some (.int .i32 0) := h5.cell 3
      have z3 := h5.frozen 3
      go_simp
      try go_wp2_with fail
      replace hp := ((((hp.fr g5 0 (by omega) (.int .i32 b0)).fr g5 1 (by omega) (.int .i32 b1)).fr g5 2 (by omega) (.int .i32 b2)).fr g5 3 (by omega) (.int .i32 b3))
      replace hq := ((((hq.fr g5 0 (by omega) (.int .i32 b0)).fr g5 1 (by omega) (.int .i32 b1)).fr g5 2 (by omega) (.int .i32 b2)).fr g5 3 (by omega) (.int .i32 b3))
      replace hr := ((((hr.fr g5 0 (by omega) (.int .i32 b0)).fr g5 1 (by omega) (.int .i32 b1)).fr g5 2 (by omega) (.int .i32 b2)).fr g5 3 (by omega) (.int .i32 b3))
      replace h4 := ((((h4.fr g5 0 (by omega) (.int .i32 b0)).fr g5 1 (by omega) (.int .i32 b1)).fr g5 2 (by omega) (.int .i32 b2)).fr g5 3 (by omega) (.int .i32 b3))
      replace h5 := ((((h5.set_ 0 (.int .i32 b0)).set_ 1 (.int .i32 b1)).set_ 2 (.int .i32 b2)).set_ 3 (.int .i32 b3))
      replace hbe := (((hbe.sc g5 0 (by omega) (.int .i32 b0)).sc g5 1 (by omega) (.int .i32 b1)).sc g5 2 (by omega) (.int .i32 b2)).sc g5 3 (by omega) (.int .i32 b3)
      clear c0 z0 c1 z1 c2 z2 c3 z3
      generalize ((((w24_6.setCell ⟨g5, 0, none⟩ (.int .i32 b0)).setCell ⟨g5, 1, none⟩ (.int .i32 b1)).setCell ⟨g5, 2, none⟩ (.int .i32 b2)).setCell ⟨g5, 3, none⟩ (.int .i32 b3)) = w25_7 at *
      refine hK.out _ _ ⟨hp.cell 0, hp.cell 1, hp.cell 2, hp.cell 3, hq.cell 0, hq.cell 1, hq.cell 2, hq.cell 3⟩ (fun hH => ?_)
      clear hK K
      try (simp only [Act.put, List.setIfInBounds_toArray, List.set_cons_zero, List.set_cons_succ])
      refine wpAnyH_done ?hrz25 ?hqz25 _
      case hrz25 => kernel_rfl
      refine NoPanic.normal ?_
      try go_wp2_with fail
      go_meet
      exact ⟨g4, g5, rfl, rfl, by omega, hr, h4, h5, by omega, by omega, hbe⟩
    case hc21_4 =>
     go_simp
     try go_wp2_with fail
     have lg4 := hr.lt
     have hne := h5.lt
     replace hp := hp.alloc (.cells #[.int .i32 0, .int .i32 0, .int .i32 0, .int .i32 0] 94)
     replace hq := hq.alloc (.cells #[.int .i32 0, .int .i32 0, .int .i32 0, .int .i32 0] 94)
     replace hr := hr.alloc (.cells #[.int .i32 0, .int .i32 0, .int .i32 0, .int .i32 0] 94)
     replace h5 := h5.alloc (.cells #[.int .i32 0, .int .i32 0, .int .i32 0, .int .i32 0] 94)
     have h4 := Blk.new w2_5 94 #[.int .i32 0, .int .i32 0, .int .i32 0, .int .i32 0]
     replace hbe := hbe.alloc hbe.size (.cells #[.int .i32 0, .int .i32 0, .int .i32 0, .int .i32 0] 94)
     generalize w2_5.alloc (.cells #[.int .i32 0, .int .i32 0, .int .i32 0, .int .i32 0] 94) = w21_4 at *
     generalize w2_5.heap.size = g4 at *
     refine hK.out _ _ ⟨hp.cell 0, hp.cell 1, hp.cell 2, hp.cell 3, hq.cell 0, hq.cell 1, hq.cell 2, hq.cell 3⟩ (fun hH => ?_)
     clear hK K
     try (simp only [Act.put, List.setIfInBounds_toArray, List.set_cons_zero, List.set_cons_succ])
     refine rd1 3 (fun K hK => ?hc26_3)
     case hc26_3 =>
      go_simp
      refine (HQ.out _).mono ?_
      rintro e w26_3 ⟨rfl, bb⟩
      go_wp2_with fail
      replace hp := hp.below bb hp.lt
      replace hq := hq.below bb hq.lt
      replace hr := hr.below bb hr.lt
      replace h4 := h4.below bb h4.lt
      replace h5 := h5.below bb h5.lt
      replace hbe := hbe.on bb
      clear bb
      refine hK.out _ _ ⟨hp.cell 0, hp.cell 1, hp.cell 2, hp.cell 3, hq.cell 0, hq.cell 1, hq.cell 2, hq.cell 3⟩ (fun hH => ?_)
      clear hK K
      try (simp only [Act.put, List.setIfInBounds_toArray, List.set_cons_zero, List.set_cons_succ])
      refine rd1 6 (fun K hK => ?hc28_6)
      have c0 : w26_3.cell? ⟨g4, 0, none⟩ = some (.int .i32 0) := h4.cell 0
      have z0 := h4.frozen 0
      have c1 : w26_3.cell? ⟨g4, 1, none⟩ = some (.int .i32 0) := h4.cell 1
      have z1 := h4.frozen 1
      have c2 : w26_3.cell? ⟨g4, 2, none⟩ = some (.int .i32 0) := h4.cell 2
      have z2 := h4.frozen 2
      have c3 : w26_3.cell? ⟨g4, 3, none⟩ = some (.int .i32 0) := h4.cell 3
      have z3 := h4.frozen 3
      go_simp
      try go_wp2_with fail
      replace hp := ((((hp.fr g4 0 (by omega) (.int .i32 a0)).fr g4 1 (by omega) (.int .i32 a1)).fr g4 2 (by omega) (.int .i32 a2)).fr g4 3 (by omega) (.int .i32 a3))
      replace hq := ((((hq.fr g4 0 (by omega) (.int .i32 a0)).fr g4 1 (by omega) (.int .i32 a1)).fr g4 2 (by omega) (.int .i32 a2)).fr g4 3 (by omega) (.int .i32 a3))
      replace hr := ((((hr.fr g4 0 (by omega) (.int .i32 a0)).fr g4 1 (by omega) (.int .i32 a1)).fr g4 2 (by omega) (.int .i32 a2)).fr g4 3 (by omega) (.int .i32 a3))
      replace h5 := ((((h5.fr g4 0 (by omega) (.int .i32 a0)).fr g4 1 (by omega) (.int .i32 a1)).fr g4 2 (by omega) (.int .i32 a2)).fr g4 3 (by omega) (.int .i32 a3))
      replace h4 := ((((h4.set_ 0 (.int .i32 a0)).set_ 1 (.int .i32 a1)).set_ 2 (.int .i32 a2)).set_ 3 (.int .i32 a3))
      replace hbe := (((hbe.sc g4 0 (by omega) (.int .i32 a0)).sc g4 1 (by omega) (.int .i32 a1)).sc g4 2 (by omega) (.int .i32 a2)).sc g4 3 (by omega) (.int .i32 a3)
      clear c0 z0 c1 z1 c2 z2 c3 z3
      generalize ((((w26_3.setCell ⟨g4, 0, none⟩ (.int .i32 a0)).setCell ⟨g4, 1, none⟩ (.int .i32 a1)).setCell ⟨g4, 2, none⟩ (.int .i32 a2)).setCell ⟨g4, 3, none⟩ (.int .i32 a3)) = w28_6 at *
      refine hK.out _ _ ⟨hp.cell 0, hp.cell 1, hp.cell 2, hp.cell 3, hq.cell 0, hq.cell 1, hq.cell 2, hq.cell 3⟩ (fun hH => ?_)
      clear hK K
      try (simp only [Act.put, List.setIfInBounds_toArray, List.set_cons_zero, List.set_cons_succ])
      refine rd1 7 (fun K hK => ?hc29_7)
      have c0 : w28_6.cell? ⟨g5, 0, none⟩ = some (.int .i32 0) := h5.cell 0
      have z0 := h5.frozen 0
      have c1 : w28_6.cell? ⟨g5, 1, none⟩ = some (.int .i32 0) := h5.cell 1
      have z1 := h5.frozen 1
      have c2 : w28_6.cell? ⟨g5, 2, none⟩ = some (.int .i32 0) := h5.cell 2
      have z2 := h5.frozen 2
      have c3 : w28_6.cell? ⟨g5, 3, none⟩ = some (.int .i32 0) := h5.cell 3
      have z3 := h5.frozen 3
      go_simp
      try go_wp2_with fail
      replace hp := ((((hp.fr g5 0 (by omega) (.int .i32 b0)).fr g5 1 (by omega) (.int .i32 b1)).fr g5 2 (by omega) (.int .i32 b2)).fr g5 3 (by omega) (.int .i32 b3))
      replace hq := ((((hq.fr g5 0 (by omega) (.int .i32 b0)).fr g5 1 (by omega) (.int .i32 b1)).fr g5 2 (by omega) (.int .i32 b2)).fr g5 3 (by omega) (.int .i32 b3))
      replace hr := ((((hr.fr g5 0 (by omega) (.int .i32 b0)).fr g5 1 (by omega) (.int .i32 b1)).fr g5 2 (by omega) (.int .i32 b2)).fr g5 3 (by omega) (.int .i32 b3))
      replace h4 := ((((h4.fr g5 0 (by omega) (.int .i32 b0)).fr g5 1 (by omega) (.int .i32 b1)).fr g5 2 (by omega) (.int .i32 b2)).fr g5 3 (by omega) (.int .i32 b3))
      replace h5 := ((((h5.set_ 0 (.int .i32 b0)).set_ 1 (.int .i32 b1)).set_ 2 (.int .i32 b2)).set_ 3 (.int .i32 b3))
      replace hbe := (((hbe.sc g5 0 (by omega) (.int .i32 b0)).sc g5 1 (by omega) (.int .i32 b1)).sc g5 2 (by omega) (.int .i32 b2)).sc g5 3 (by omega) (.int .i32 b3)
      clear c0 z0 c1 z1 c2 z2 c3 z3
      generalize ((((w28_6.setCell ⟨g5, 0, none⟩ (.int .i32 b0)).setCell ⟨g5, 1, none⟩ (.int .i32 b1)).setCell ⟨g5, 2, none⟩ (.int .i32 b2)).setCell ⟨g5, 3, none⟩ (.int .i32 b3)) = w29_7 at *
      refine hK.out _ _ ⟨hp.cell 0, hp.cell 1, hp.cell 2, hp.cell 3, hq.cell 0, hq.cell 1, hq.cell 2, hq.cell 3⟩ (fun hH => ?_)
      clear hK K
      try (simp only [Act.put, List.setIfInBounds_toArray, List.set_cons_zero, List.set_cons_succ])
      refine wpAnyH_done ?hrz29 ?hqz29 _
      case hrz29 => kernel_rfl
      refine NoPanic.normal ?_
      try go_wp2_with fail
      go_meet
      exact ⟨g4, g5, rfl, rfl, by omega, hr, h4, h5, by omega, by omega, hbe⟩
  case hc1_4 =>
   go_simp
   try go_wp2_with fail
   have lg4 := hr.lt
   replace hp := hp.alloc (.cells #[.int .i32 0, .int .i32 0, .int .i32 0, .int .i32 0] 94)
   replace hq := hq.alloc (.cells #[.int .i32 0, .int .i32 0, .int .i32 0, .int .i32 0] 94)
   replace hr := hr.alloc (.cells #[.int .i32 0, .int .i32 0, .int .i32 0, .int .i32 0] 94)
   have h4 := Blk.new w0 94 #[.int .i32 0, .int .i32 0, .int .i32 0, .int .i32 0]
   replace hbe := hbe.alloc hbe.size (.cells #[.int .i32 0, .int .i32 0, .int .i32 0, .int .i32 0] 94)
   generalize w0.alloc (.cells #[.int .i32 0, .int .i32 0, .int .i32 0, .int .i32 0] 94) = w1_4 at *
   generalize w0.heap.size = g4 at *
   refine hK.out _ _ ⟨hp.cell 0, hp.cell 1, hp.cell 2, hp.cell 3, hq.cell 0, hq.cell 1, hq.cell 2, hq.cell 3⟩ (fun hH => ?_)
   clear hK K
   try (simp only [Act.put, List.setIfInBounds_toArray, List.set_cons_zero, List.set_cons_succ])
   refine rd2 1 5 (fun K hK => ?hc30_1) (fun K hK => ?hc30_5)
   case hc30_1 =>
    go_simp
    refine (HP.out _).mono ?_
    rintro e w30_1 ⟨rfl, bb⟩
    go_wp2_with fail
    replace hp := hp.below bb hp.lt
    replace hq := hq.below bb hq.lt
    replace hr := hr.below bb hr.lt
    replace h4 := h4.below bb h4.lt
    replace hbe := hbe.on bb
    clear bb
    refine hK.out _ _ ⟨hp.cell 0, hp.cell 1, hp.cell 2, hp.cell 3, hq.cell 0, hq.cell 1, hq.cell 2, hq.cell 3⟩ (fun hH => ?_)
    clear hK K
    try (simp only [Act.put, List.setIfInBounds_toArray, List.set_cons_zero, List.set_cons_succ])
    refine rd2 3 5 (fun K hK => ?hc31_3) (fun K hK => ?hc31_5)
    case hc31_3 =>
     go_simp
     refine (HQ.out _).mono ?_
     rintro e w31_3 ⟨rfl, bb⟩
     go_wp2_with fail
     replace hp := hp.below bb hp.lt
     replace hq := hq.below bb hq.lt
     replace hr := hr.below bb hr.lt
     replace h4 := h4.below bb h4.lt
     replace hbe := hbe.on bb
     clear bb
     refine hK.out _ _ ⟨hp.cell 0, hp.cell 1, hp.cell 2, hp.cell 3, hq.cell 0, hq.cell 1, hq.cell 2, hq.cell 3⟩ (fun hH => ?_)
     clear hK K
     try (simp only [Act.put, List.setIfInBounds_toArray, List.set_cons_zero, List.set_cons_succ])
     refine rd1 5 (fun K hK => ?hc32_5)
     case hc32_5 =>
      go_simp
      try go_wp2_with fail
      have lg5 := hr.lt
      have hne := h4.lt
      replace hp := hp.alloc (.cells #[.int .i32 0, .int .i32 0, .int .i32 0, .int .i32 0] 94)
      replace hq := hq.alloc (.cells #[.int .i32 0, .int .i32 0, .int .i32 0, .int .i32 0] 94)
      replace hr := hr.alloc (.cells #[.int .i32 0, .int .i32 0, .int .i32 0, .int .i32 0] 94)
      replace h4 := h4.alloc (.cells #[.int .i32 0, .int .i32 0, .int .i32 0, .int .i32 0] 94)
      have h5 := Blk.new w31_3 94 #[.int .i32 0, .int .i32 0, .int .i32 0, .int .i32 0]
      replace hbe := hbe.alloc hbe.size (.cells #[.int .i32 0, .int .i32 0, .int .i32 0, .int .i32 0] 94)
      generalize w31_3.alloc (.cells #[.int .i32 0, .int .i32 0, .int .i32 0, .int .i32 0] 94) = w32_5 at *
      generalize w31_3.heap.size = g5 at *
      refine hK.out _ _ ⟨hp.cell 0, hp.cell 1, hp.cell 2, hp.cell 3, hq.cell 0, hq.cell 1, hq.cell 2, hq.cell 3⟩ (fun hH => ?_)
      clear hK K
      try (simp only [Act.put, List.setIfInBounds_toArray, List.set_cons_zero, List.set_cons_succ])
      refine rd1 6 (fun K hK => ?hc34_6)
      have c0 : w32_5.cell? ⟨g4, 0, none⟩ = some (.int .i32 0) := h4.cell 0
      have z0 := h4.frozen 0
      have c1 : w32_5.cell? ⟨g4, 1, none⟩ = some (.int .i32 0) := h4.cell 1
      have z1 := h4.frozen 1
      have c2 : w32_5.cell? ⟨g4, 2, none⟩ = some (.int .i32 0) := h4.cell 2
      have z2 := h4.frozen 2
      have c3 : w32_5.cell? ⟨g4, 3, none⟩ = some (.int .i32 0) := h4.cell 3
      have z3 := h4.frozen 3
      go_simp
      try go_wp2_with fail
      replace hp := ((((hp.fr g4 0 (by omega) (.int .i32 a0)).fr g4 1 (by omega) (.int .i32 a1)).fr g4 2 (by omega) (.int .i32 a2)).fr g4 3 (by omega) (.int .i32 a3))
      replace hq := ((((hq.fr g4 0 (by omega) (.int .i32 a0)).fr g4 1 (by omega) (.int .i32 a1)).fr g4 2 (by omega) (.int .i32 a2)).fr g4 3 (by omega) (.int .i32 a3))
      replace hr := ((((hr.fr g4 0 (by omega) (.int .i32 a0)).fr g4 1 (by omega) (.int .i32 a1)).fr g4 2 (by omega) (.int .i32 a2)).fr g4 3 (by omega) (.int .i32 a3))
      replace h5 := ((((h5.fr g4 0 (by omega) (.int .i32 a0)).fr g4 1 (by omega) (.int .i32 a1)).fr g4 2 (by omega) (.int .i32 a2)).fr g4 3 (by omega) (.int .i32 a3))
      replace h4 := ((((h4.set_ 0 (.int .i32 a0)).set_ 1 (.int .i32 a1)).set_ 2 (.int .i32 a2)).set_ 3 (.int .i32 a3))
      replace hbe := (((hbe.sc g4 0 (by omega) (.int .i32 a0)).sc g4 1 (by omega) (.int .i32 a1)).sc g4 2 (by omega) (.int .i32 a2)).sc g4 3 (by omega) (.int .i32 a3)
      clear c0 z0 c1 z1 c2 z2 c3 z3
      generalize ((((w32_5.setCell ⟨g4, 0, none⟩ (.int .i32 a0)).setCell ⟨g4, 1, none⟩ (.int .i32 a1)).setCell ⟨g4, 2, none⟩ (.int .i32 a2)).setCell ⟨g4, 3, none⟩ (.int .i32 a3)) = w34_6 at *
      refine hK.out _ _ ⟨hp.cell 0, hp.cell 1, hp.cell 2, hp.cell 3, hq.cell 0, hq.cell 1, hq.cell 2, hq.cell 3⟩ (fun hH => ?_)
      clear hK K
      try (simp only [Act.put, List.setIfInBounds_toArray, List.set_cons_zero, List.set_cons_succ])
      refine rd1 7 (fun K hK => ?hc35_7)
      have c0 : w34_6.cell? ⟨g5, 0, none⟩ = some (.int .i32 0) := h5.cell 0
      have z0 := h5.frozen 0
      have c1 : w34_6.cell? ⟨g5, 1, none⟩ = some (.int .i32 0) := h5.cell 1
      have z1 := h5.frozen 1
      have c2 : w34_6.cell? ⟨g5, 2, none⟩ = some (.int .i32 0) := h5.cell 2
      have z2 := h5.frozen 2
      have c3 : w34_6.cell? ⟨g5, 3, none⟩ = some (.int .i32 0) := h5.cell 3
      have z3 := h5.frozen 3
      go_simp
      try go_wp2_with fail
      replace hp := ((((hp.fr g5 0 (by omega) (.int .i32 b0)).fr g5 1 (by omega) (.int .i32 b1)).fr g5 2 (by omega) (.int .i32 b2)).fr g5 3 (by omega) (.int .i32 b3))
      replace hq := ((((hq.fr g5 0 (by omega) (.int .i32 b0)).fr g5 1 (by omega) (.int .i32 b1)).fr g5 2 (by omega) (.int .i32 b2)).fr g5 3 (by omega) (.int .i32 b3))
      replace hr := ((((hr.fr g5 0 (by omega) (.int .i32 b0)).fr g5 1 (by omega) (.int .i32 b1)).fr g5 2 (by omega) (.int .i32 b2)).fr g5 3 (by omega) (.int .i32 b3))
      replace h4 := ((((h4.fr g5 0 (by omega) (.int .i32 b0)).fr g5 1 (by omega) (.int .i32 b1)).fr g5 2 (by omega) (.int .i32 b2)).fr g5 3 (by omega) (.int .i32 b3))
      replace h5 := ((((h5.set_ 0 (.int .i32 b0)).set_ 1 (.int .i32 b1)).set_ 2 (.int .i32 b2)).set_ 3 (.int .i32 b3))
      replace hbe := (((hbe.sc g5 0 (by omega) (.int .i32 b0)).sc g5 1 (by omega) (.int .i32 b1)).sc g5 2 (by omega) (.int .i32 b2)).sc g5 3 (by omega) (.int .i32 b3)
      clear c0 z0 c1 z1 c2 z2 c3 z3
      generalize ((((w34_6.setCell ⟨g5, 0, none⟩ (.int .i32 b0)).setCell ⟨g5, 1, none⟩ (.int .i32 b1)).setCell ⟨g5, 2, none⟩ (.int .i32 b2)).setCell ⟨g5, 3, none⟩ (.int .i32 b3)) = w35_7 at *
      refine hK.out _ _ ⟨hp.cell 0, hp.cell 1, hp.cell 2, hp.cell 3, hq.cell 0, hq.cell 1, hq.cell 2, hq.cell 3⟩ (fun hH => ?_)
      clear hK K
      try (simp only [Act.put, List.setIfInBounds_toArray, List.set_cons_zero, List.set_cons_succ])
      refine wpAnyH_done ?hrz35 ?hqz35 _
      case hrz35 => kernel_rfl
      refine NoPanic.normal ?_
      try go_wp2_with fail
      go_meet
      exact ⟨g4, g5, rfl, rfl, by omega, hr, h4, h5, by omega, by omega, hbe⟩
    case hc31_5 =>
     go_simp
     try go_wp2_with fail
     have lg5 := hr.lt
     have hne := h4.lt
     replace hp := hp.alloc (.cells #[.int .i32 0, .int .i32 0, .int .i32 0, .int .i32 0] 94)
     replace hq := hq.alloc (.cells #[.int .i32 0, .int .i32 0, .int .i32 0, .int .i32 0] 94)
     replace hr := hr.alloc (.cells #[.int .i32 0, .int .i32 0, .int .i32 0, .int .i32 0] 94)
     replace h4 := h4.alloc (.cells #[.int .i32 0, .int .i32 0, .int .i32 0, .int .i32 0] 94)
     have h5 := Blk.new w30_1 94 #[.int .i32 0, .int .i32 0, .int .i32 0, .int .i32 0]
     replace hbe := hbe.alloc hbe.size (.cells #[.int .i32 0, .int .i32 0, .int .i32 0, .int .i32 0] 94)
     generalize w30_1.alloc (.cells #[.int .i32 0, .int .i32 0, .int .i32 0, .int .i32 0] 94) = w31_5 at *
     generalize w30_1.heap.size = g5 at *
     refine hK.out _ _ ⟨hp.cell 0, hp.cell 1, hp.cell 2, hp.cell 3, hq.cell 0, hq.cell 1, hq.cell 2, hq.cell 3⟩ (fun hH => ?_)
     clear hK K
     try (simp only [Act.put, List.setIfInBounds_toArray, List.set_cons_zero, List.set_cons_succ])
     refine rd1 3 (fun K hK => ?hc36_3)
     case hc36_3 =>
      go_simp
      refine (HQ.out _).mono ?_
      rintro e w36_3 ⟨rfl, bb⟩
      go_wp2_with fail
      replace hp := hp.below bb hp.lt
      replace hq := hq.below bb hq.lt
      replace hr := hr.below bb hr.lt
      replace h4 := h4.below bb h4.lt
      replace h5 := h5.below bb h5.lt
      replace hbe := hbe.on bb
      clear bb
      refine hK.out _ _ ⟨hp.cell 0, hp.cell 1, hp.cell 2, hp.cell 3, hq.cell 0, hq.cell 1, hq.cell 2, hq.cell 3⟩ (fun hH => ?_)
      clear hK K
      try (simp only [Act.put, List.setIfInBounds_toArray, List.set_cons_zero, List.set_cons_succ])
      refine rd1 6 (fun K hK => ?hc38_6)
      have c0 : w36_3.cell? ⟨g4, 0, none⟩ = some (.int .i32 0) := h4.cell 0
      have z0 := h4.frozen 0
      have c1 : w36_3.cell? ⟨g4, 1, none⟩ = some (.int .i32 0) := h4.cell 1
      have z1 := h4.frozen 1
      have c2 : w36_3.cell? ⟨g4, 2, none⟩ = some (.int .i32 0) := h4.cell 2
      have z2 := h4.frozen 2
      have c3 : w36_3.cell? ⟨g4, 3, none⟩ = some (.int .i32 0) := h4.cell 3
      have z3 := h4.frozen 3
      go_simp
      try go_wp2_with fail
      replace hp := ((((hp.fr g4 0 (by omega) (.int .i32 a0)).fr g4 1 (by omega) (.int .i32 a1)).fr g4 2 (by omega) (.int .i32 a2)).fr g4 3 (by omega) (.int .i32 a3))
      replace hq := ((((hq.fr g4 0 (by omega) (.int .i32 a0)).fr g4 1 (by omega) (.int .i32 a1)).fr g4 2 (by omega) (.int .i32 a2)).fr g4 3 (by omega) (.int .i32 a3))
      replace hr := ((((hr.fr g4 0 (by omega) (.int .i32 a0)).fr g4 1 (by omega) (.int .i32 a1)).fr g4 2 (by omega) (.int .i32 a2)).fr g4 3 (by omega) (.int .i32 a3))
      replace h5 := ((((h5.fr g4 0 (by omega) (.int .i32 a0)).fr g4 1 (by omega) (.int .i32 a1)).fr g4 2 (by omega) (.int .i32 a2)).fr g4 3 (by omega) (.int .i32 a3))
      replace h4 := ((((h4.set_ 0 (.int .i32 a0)).set_ 1 (.int .i32 a1)).set_ 2 (.int .i32 a2)).set_ 3 (.int .i32 a3))
      replace hbe := (((hbe.sc g4 0 (by omega) (.int .i32 a0)).sc g4 1 (by omega) (.int .i32 a1)).sc g4 2 (by omega) (.int .i32 a2)).sc g4 3 (by omega) (.int .i32 a3)
      clear c0 z0 c1 z1 c2 z2 c3 z3
      generalize ((((w36_3.setCell ⟨g4, 0, none⟩ (.int .i32 a0)).setCell ⟨g4, 1, none⟩ (.int .i32 a1)).setCell ⟨g4, 2, none⟩ (.int .i32 a2)).setCell ⟨g4, 3, none⟩ (.int .i32 a3)) = w38_6 at *
      refine hK.out _ _ ⟨hp.cell 0, hp.cell 1, hp.cell 2, hp.cell 3, hq.cell 0, hq.cell 1, hq.cell 2, hq.cell 3⟩ (fun hH => ?_)
      clear hK K
      try (simp only [Act.put, List.setIfInBounds_toArray, List.set_cons_zero, List.set_cons_succ])
      refine rd1 7 (fun K hK => ?hc39_7)
      have c0 : w38_6.cell? ⟨g5, 0, none⟩ = some (.int .i32 0) := h5.cell 0
      have z0 := h5.frozen 0
      have c1 : w38_6.cell? ⟨g5, 1, none⟩ = some (.int .i32 0) := h5.cell 1
      have z1 := h5.frozen 1
      have c2 : w38_6.cell? ⟨g5, 2, none⟩ = some (.int .i32 0) := h5.cell 2
      have z2 := h5.frozen 2
      have c3 : w38_6.cell? ⟨g5, 3, none⟩ = some (.int .i32 0) := h5.cell 3
      have z3 := h5.frozen 3
      go_simp
      try go_wp2_with fail
      replace hp := ((((hp.fr g5 0 (by omega) (.int .i32 b0)).fr g5 1 (by omega) (.int .i32 b1)).fr g5 2 (by omega) (.int .i32 b2)).fr g5 3 (by omega) (.int .i32 b3))
      replace hq := ((((hq.fr g5 0 (by omega) (.int .i32 b0)).fr g5 1 (by omega) (.int .i32 b1)).fr g5 2 (by omega) (.int .i32 b2)).fr g5 3 (by omega) (.int .i32 b3))
      replace hr := ((((hr.fr g5 0 (by omega) (.int .i32 b0)).fr g5 1 (by omega) (.int .i32 b1)).fr g5 2 (by omega) (.int .i32 b2)).fr g5 3 (by omega) (.int .i32 b3))
      replace h4 := ((((h4.fr g5 0 (by omega) (.int .i32 b0)).fr g5 1 (by omega) (.int .i32 b1)).fr g5 2 (by omega) (.int .i32 b2)).fr g5 3 (by omega) (.int .i32 b3))
      replace h5 := ((((h5.set_ 0 (.int .i32 b0)).set_ 1 (.int .i32 b1)).set_ 2 (.int .i32 b2)).set_ 3 (.int .i32 b3))
      replace hbe := (((hbe.sc g5 0 (by omega) (.int .i32 b0)).sc g5 1 (by omega) (.int .i32 b1)).sc g5 2 (by omega) (.int .i32 b2)).sc g5 3 (by omega) (.int .i32 b3)
      clear c0 z0 c1 z1 c2 z2 c3 z3
      generalize ((((w38_6.setCell ⟨g5, 0, none⟩ (.int .i32 b0)).setCell ⟨g5, 1, none⟩ (.int .i32 b1)).setCell ⟨g5, 2, none⟩ (.int .i32 b2)).setCell ⟨g5, 3, none⟩ (.int .i32 b3)) = w39_7 at *
      refine hK.out _ _ ⟨hp.cell 0, hp.cell 1, hp.cell 2, hp.cell 3, hq.cell 0, hq.cell 1, hq.cell 2, hq.cell 3⟩ (fun hH => ?_)
      clear hK K
      try (simp only [Act.put, List.setIfInBounds_toArray, List.set_cons_zero, List.set_cons_succ])
      refine wpAnyH_done ?hrz39 ?hqz39 _
      case hrz39 => kernel_rfl
      refine NoPanic.normal ?_
      try go_wp2_with fail
      go_meet
      exact ⟨g4, g5, rfl, rfl, by omega, hr, h4, h5, by omega, by omega, hbe⟩
   case hc30_5 =>
    go_simp
    try go_wp2_with fail
    have lg5 := hr.lt
    have hne := h4.lt
    replace hp := hp.alloc (.cells #[.int .i32 0, .int .i32 0, .int .i32 0, .int .i32 0] 94)
    replace hq := hq.alloc (.cells #[.int .i32 0, .int .i32 0, .int .i32 0, .int .i32 0] 94)
    replace hr := hr.alloc (.cells #[.int .i32 0, .int .i32 0, .int .i32 0, .int .i32 0] 94)
    replace h4 := h4.alloc (.cells #[.int .i32 0, .int .i32 0, .int .i32 0, .int .i32 0] 94)
    have h5 := Blk.new w1_4 94 #[.int .i32 0, .int .i32 0, .int .i32 0, .int .i32 0]
    replace hbe := hbe.alloc hbe.size (.cells #[.int .i32 0, .int .i32 0, .int .i32 0, .int .i32 0] 94)
    generalize w1_4.alloc (.cells #[.int .i32 0, .int .i32 0, .int .i32 0, .int .i32 0] 94) = w30_5 at *
    generalize w1_4.heap.size = g5 at *
    refine hK.out _ _ ⟨hp.cell 0, hp.cell 1, hp.cell 2, hp.cell 3, hq.cell 0, hq.cell 1, hq.cell 2, hq.cell 3⟩ (fun hH => ?_)
    clear hK K
    try (simp only [Act.put, List.setIfInBounds_toArray, List.set_cons_zero, List.set_cons_succ])
    refine rd1 1 (fun K hK => ?hc40_1)
    case hc40_1 =>
     go_simp
     refine (HP.out _).mono ?_
     rintro e w40_1 ⟨rfl, bb⟩
     go_wp2_with fail
     replace hp := hp.below bb hp.lt
     replace hq := hq.below bb hq.lt
     replace hr := hr.below bb hr.lt
     replace h4 := h4.below bb h4.lt
     replace h5 := h5.below bb h5.lt
     replace hbe := hbe.on bb
     clear bb
     refine hK.out _ _ ⟨hp.cell 0, hp.cell 1, hp.cell 2, hp.cell 3, hq.cell 0, hq.cell 1, hq.cell 2, hq.cell 3⟩ (fun hH => ?_)
     clear hK K
     try (simp only [Act.put, List.setIfInBounds_toArray, List.set_cons_zero, List.set_cons_succ])
     refine rd1 3 (fun K hK => ?hc41_3)
     case hc41_3 =>
      go_simp
      refine (HQ.out _).mono ?_
      rintro e w41_3 ⟨rfl, bb⟩
      go_wp2_with fail
      replace hp := hp.below bb hp.lt
      replace hq := hq.below bb hq.lt
      replace hr := hr.below bb hr.lt
      replace h4 := h4.below bb h4.lt
      replace h5 := h5.below bb h5.lt
      replace hbe := hbe.on bb
      clear bb
      refine hK.out _ _ ⟨hp.cell 0, hp.cell 1, hp.cell 2, hp.cell 3, hq.cell 0, hq.cell 1, hq.cell 2, hq.cell 3⟩ (fun hH => ?_)
      clear hK K
      try (simp only [Act.put, List.setIfInBounds_toArray, List.set_cons_zero, List.set_cons_succ])
      refine rd1 6 (fun K hK => ?hc43_6)
      have c0 : w41_3.cell? ⟨g4, 0, none⟩ = some (.int .i32 0) := h4.cell 0
      have z0 := h4.frozen 0
      have c1 : w41_3.cell? ⟨g4, 1, none⟩ = some (.int .i32 0) := h4.cell 1
      have z1 := h4.frozen 1
      have c2 : w41_3.cell? ⟨g4, 2, none⟩ = some (.int .i32 0) := h4.cell 2
      have z2 := h4.frozen 2
      have c3 : w41_3.cell? ⟨g4, 3, none⟩ = some (.int .i32 0) := h4.cell 3
      have z3 := h4.frozen 3
      go_simp
      try go_wp2_with fail
      replace hp := ((((hp.fr g4 0 (by omega) (.int .i32 a0)).fr g4 1 (by omega) (.int .i32 a1)).fr g4 2 (by omega) (.int .i32 a2)).fr g4 3 (by omega) (.int .i32 a3))
      replace hq := ((((hq.fr g4 0 (by omega) (.int .i32 a0)).fr g4 1 (by omega) (.int .i32 a1)).fr g4 2 (by omega) (.int .i32 a2)).fr g4 3 (by omega) (.int .i32 a3))
      replace hr := ((((hr.fr g4 0 (by omega) (.int .i32 a0)).fr g4 1 (by omega) (.int .i32 a1)).fr g4 2 (by omega) (.int .i32 a2)).fr g4 3 (by omega) (.int .i32 a3))
      replace h5 := ((((h5.fr g4 0 (by omega) (.int .i32 a0)).fr g4 1 (by omega) (.int .i32 a1)).fr g4 2 (by omega) (.int .i32 a2)).fr g4 3 (by omega) (.int .i32 a3))
      replace h4 := ((((h4.set_ 0 (.int .i32 a0)).set_ 1 (.int .i32 a1)).set_ 2 (.int .i32 a2)).set_ 3 (.int .i32 a3))
      replace hbe := (((hbe.sc g4 0 (by omega) (.int .i32 a0)).sc g4 1 (by omega) (.int .i32 a1)).sc g4 2 (by omega) (.int .i32 a2)).sc g4 3 (by omega) (.int .i32 a3)
      clear c0 z0 c1 z1 c2 z2 c3 z3
      generalize ((((w41_3.setCell ⟨g4, 0, none⟩ (.int .i32 a0)).setCell ⟨g4, 1, none⟩ (.int .i32 a1)).setCell ⟨g4, 2, none⟩ (.int .i32 a2)).setCell ⟨g4, 3, none⟩ (.int .i32 a3)) = w43_6 at *
      refine hK.out _ _ ⟨hp.cell 0, hp.cell 1, hp.cell 2, hp.cell 3, hq.cell 0, hq.cell 1, hq.cell 2, hq.cell 3⟩ (fun hH => ?_)
      clear hK K
      try (simp only [Act.put, List.setIfInBounds_toArray, List.set_cons_zero, List.set_cons_succ])
      refine rd1 7 (fun K hK => ?hc44_7)
      have c0 : w43_6.cell? ⟨g5, 0, none⟩ = some (.int .i32 0) := h5.cell 0
      have z0 := h5.frozen 0
      have c1 : w43_6.cell? ⟨g5, 1, none⟩ = some (.int .i32 0) := h5.cell 1
      have z1 := h5.frozen 1
      have c2 : w43_6.cell? ⟨g5, 2, none⟩ = some (.int .i32 0) := h5.cell 2
      have z2 := h5.frozen 2
      have c3 : w43_6.cell? ⟨g5, 3, none⟩ = some (.int .i32 0) := h5.cell 3
      have z3 := h5.frozen 3
      go_simp
      try go_wp2_with fail
      replace hp := ((((hp.fr g5 0 (by omega) (.int .i32 b0)).fr g5 1 (by omega) (.int .i32 b1)).fr g5 2 (by omega) (.int .i32 b2)).fr g5 3 (by omega) (.int .i32 b3))
      replace hq := ((((hq.fr g5 0 (by omega) (.int .i32 b0)).fr g5 1 (by omega) (.int .i32 b1)).fr g5 2 (by omega) (.int .i32 b2)).fr g5 3 (by omega) (.int .i32 b3))
      replace hr := ((((hr.fr g5 0 (by omega) (.int .i32 b0)).fr g5 1 (by omega) (.int .i32 b1)).fr g5 2 (by omega) (.int .i32 b2)).fr g5 3 (by omega) (.int .i32 b3))
      replace h4 := ((((h4.fr g5 0 (by omega) (.int .i32 b0)).fr g5 1 (by omega) (.int .i32 b1)).fr g5 2 (by omega) (.int .i32 b2)).fr g5 3 (by omega) (.int .i32 b3))
      replace h5 := ((((h5.set_ 0 (.int .i32 b0)).set_ 1 (.int .i32 b1)).set_ 2 (.int .i32 b2)).set_ 3 (.int .i32 b3))
      replace hbe := (((hbe.sc g5 0 (by omega) (.int .i32 b0)).sc g5 1 (by omega) (.int .i32 b1)).sc g5 2 (by omega) (.int .i32 b2)).sc g5 3 (by omega) (.int .i32 b3)
      clear c0 z0 c1 z1 c2 z2 c3 z3
      generalize ((((w43_6.setCell ⟨g5, 0, none⟩ (.int .i32 b0)).setCell ⟨g5, 1, none⟩ (.int .i32 b1)).setCell ⟨g5, 2, none⟩ (.int .i32 b2)).setCell ⟨g5, 3, none⟩ (.int .i32 b3)) = w44_7 at *
      refine hK.out _ _ ⟨hp.cell 0, hp.cell 1, hp.cell 2, hp.cell 3, hq.cell 0, hq.cell 1, hq.cell 2, hq.cell 3⟩ (fun hH => ?_)
      clear hK K
      try (simp only [Act.put, List.setIfInBounds_toArray, List.set_cons_zero, List.set_cons_succ])
      refine wpAnyH_done ?hrz44 ?hqz44 _
      case hrz44 => kernel_rfl
      refine NoPanic.normal ?_
      try go_wp2_with fail
      go_meet
      exact ⟨g4, g5, rfl, rfl, by omega, hr, h4, h5, by omega, by omega, hbe⟩
  case hc1_5 =>
   go_simp
   try go_wp2_with fail
   have lg5 := hr.lt
   replace hp := hp.alloc (.cells #[.int .i32 0, .int .i32 0, .int .i32 0, .int .i32 0] 94)
   replace hq := hq.alloc (.cells #[.int .i32 0, .int .i32 0, .int .i32 0, .int .i32 0] 94)
   replace hr := hr.alloc (.cells #[.int .i32 0, .int .i32 0, .int .i32 0, .int .i32 0] 94)
   have h5 := Blk.new w0 94 #[.int .i32 0, .int .i32 0, .int .i32 0, .int .i32 0]
   replace hbe := hbe.alloc hbe.size (.cells #[.int .i32 0, .int .i32 0, .int .i32 0, .int .i32 0] 94)
   generalize w0.alloc (.cells #[.int .i32 0, .int .i32 0, .int .i32 0, .int .i32 0] 94) = w1_5 at *
   generalize w0.heap.size = g5 at *
   refine hK.out _ _ ⟨hp.cell 0, hp.cell 1, hp.cell 2, hp.cell 3, hq.cell 0, hq.cell 1, hq.cell 2, hq.cell 3⟩ (fun hH => ?_)
   clear hK K
   try (simp only [Act.put, List.setIfInBounds_toArray, List.set_cons_zero, List.set_cons_succ])
   refine rd2 1 4 (fun K hK => ?hc45_1) (fun K hK => ?hc45_4)
   case hc45_1 =>
    go_simp
    refine (HP.out _).mono ?_
    rintro e w45_1 ⟨rfl, bb⟩
    go_wp2_with fail
    replace hp := hp.below bb hp.lt
    replace hq := hq.below bb hq.lt
    replace hr := hr.below bb hr.lt
    replace h5 := h5.below bb h5.lt
    replace hbe := hbe.on bb
    clear bb
    refine hK.out _ _ ⟨hp.cell 0, hp.cell 1, hp.cell 2, hp.cell 3, hq.cell 0, hq.cell 1, hq.cell 2, hq.cell 3⟩ (fun hH => ?_)
    clear hK K
    try (simp only [Act.put, List.setIfInBounds_toArray, List.set_cons_zero, List.set_cons_succ])
    refine rd2 3 4 (fun K hK => ?hc46_3) (fun K hK => ?hc46_4)
    case hc46_3 =>
     go_simp
     refine (HQ.out _).mono ?_
     rintro e w46_3 ⟨rfl, bb⟩
     go_wp2_with fail
     replace hp := hp.below bb hp.lt
     replace hq := hq.below bb hq.lt
     replace hr := hr.below bb hr.lt
     replace h5 := h5.below bb h5.lt
     replace hbe := hbe.on bb
     clear bb
     refine hK.out _ _ ⟨hp.cell 0, hp.cell 1, hp.cell 2, hp.cell 3, hq.cell 0, hq.cell 1, hq.cell 2, hq.cell 3⟩ (fun hH => ?_)
     clear hK K
     try (simp only [Act.put, List.setIfInBounds_toArray, List.set_cons_zero, List.set_cons_succ])
     refine rd1 4 (fun K hK => ?hc47_4)
     case hc47_4 =>
      go_simp
      try go_wp2_with fail
      have lg4 := hr.lt
      have hne := h5.lt
      replace hp := hp.alloc (.cells #[.int .i32 0, .int .i32 0, .int .i32 0, .int .i32 0] 94)
      replace hq := hq.alloc (.cells #[.int .i32 0, .int .i32 0, .int .i32 0, .int .i32 0] 94)
      replace hr := hr.alloc (.cells #[.int .i32 0, .int .i32 0, .int .i32 0, .int .i32 0] 94)
      replace h5 := h5.alloc (.cells #[.int .i32 0, .int .i32 0, .int .i32 0, .int .i32 0] 94)
      have h4 := Blk.new w46_3 94 #[.int .i32 0, .int .i32 0, .int .i32 0, .int .i32 0]
      replace hbe := hbe.alloc hbe.size (.cells #[.int .i32 0, .int .i32 0, .int .i32 0, .int .i32 0] 94)
      generalize w46_3.alloc (.cells #[.int .i32 0, .int .i32 0, .int .i32 0, .int .i32 0] 94) = w47_4 at *
      generalize w46_3.heap.size = g4 at *
      refine hK.out _ _ ⟨hp.cell 0, hp.cell 1, hp.cell 2, hp.cell 3, hq.cell 0, hq.cell 1, hq.cell 2, hq.cell 3⟩ (fun hH => ?_)
      clear hK K
      try (simp only [Act.put, List.setIfInBounds_toArray, List.set_cons_zero, List.set_cons_succ])
      refine rd1 6 (fun K hK => ?hc49_6)
      have c0 : w47_4.cell? ⟨g4, 0, none⟩ = some (.int .i32 0) := h4.cell 0
      have z0 := h4.frozen 0
      have c1 : w47_4.cell? ⟨g4, 1, none⟩ = some (.int .i32 0) := h4.cell 1
      have z1 := h4.frozen 1
      have c2 : w47_4.cell? ⟨g4, 2, none⟩ = some (.int .i32 0) := h4.cell 2
      have z2 := h4.frozen 2
      have c3 : w47_4.cell? ⟨g4, 3, none⟩ = some (.int .i32 0) := h4.cell 3
      have z3 := h4.frozen 3
      go_simp
      try go_wp2_with fail
      replace hp := ((((hp.fr g4 0 (by omega) (.int .i32 a0)).fr g4 1 (by omega) (.int .i32 a1)).fr g4 2 (by omega) (.int .i32 a2)).fr g4 3 (by omega) (.int .i32 a3))
      replace hq := ((((hq.fr g4 0 (by omega) (.int .i32 a0)).fr g4 1 (by omega) (.int .i32 a1)).fr g4 2 (by omega) (.int .i32 a2)).fr g4 3 (by omega) (.int .i32 a3))
      replace hr := ((((hr.fr g4 0 (by omega) (.int .i32 a0)).fr g4 1 (by omega) (.int .i32 a1)).fr g4 2 (by omega) (.int .i32 a2)).fr g4 3 (by omega) (.int .i32 a3))
      replace h5 := ((((h5.fr g4 0 (by omega) (.int .i32 a0)).fr g4 1 (by omega) (.int .i32 a1)).fr g4 2 (by omega) (.int .i32 a2)).fr g4 3 (by omega) (.int .i32 a3))
      replace h4 := ((((h4.set_ 0 (.int .i32 a0)).set_ 1 (.int .i32 a1)).set_ 2 (.int .i32 a2)).set_ 3 (.int .i32 a3))
      replace hbe := (((hbe.sc g4 0 (by omega) (.int .i32 a0)).sc g4 1 (by omega) (.int .i32 a1)).sc g4 2 (by omega) (.int .i32 a2)).sc g4 3 (by omega) (.int .i32 a3)
      clear c0 z0 c1 z1 c2 z2 c3 z3
      generalize ((((w47_4.setCell ⟨g4, 0, none⟩ (.int .i32 a0)).setCell ⟨g4, 1, none⟩ (.int .i32 a1)).setCell ⟨g4, 2, none⟩ (.int .i32 a2)).setCell ⟨g4, 3, none⟩ (.int .i32 a3)) = w49_6 at *
      refine hK.out _ _ ⟨hp.cell 0, hp.cell 1, hp.cell 2, hp.cell 3, hq.cell 0, hq.cell 1, hq.cell 2, hq.cell 3⟩ (fun hH => ?_)
      clear hK K
      try (simp only [Act.put, List.setIfInBounds_toArray, List.set_cons_zero, List.set_cons_succ])
      refine rd1 7 (fun K hK => ?hc50_7)
      have c0 : w49_6.cell? ⟨g5, 0, none⟩ = some (.int .i32 0) := h5.cell 0
      have z0 := h5.frozen 0
      have c1 : w49_6.cell? ⟨g5, 1, none⟩ = some (.int .i32 0) := h5.cell 1
      have z1 := h5.frozen 1
      have c2 : w49_6.cell? ⟨g5, 2, none⟩ = some (.int .i32 0) := h5.cell 2
      have z2 := h5.frozen 2
      have c3 : w49_6.cell? ⟨g5, 3, none⟩ = some (.int .i32 0) := h5.cell 3
      have z3 := h5.frozen 3
      go_simp
      try go_wp2_with fail
      replace hp := ((((hp.fr g5 0 (by omega) (.int .i32 b0)).fr g5 1 (by omega) (.int .i32 b1)).fr g5 2 (by omega) (.int .i32 b2)).fr g5 3 (by omega) (.int .i32 b3))
      replace hq := ((((hq.fr g5 0 (by omega) (.int .i32 b0)).fr g5 1 (by omega) (.int .i32 b1)).fr g5 2 (by omega) (.int .i32 b2)).fr g5 3 (by omega) (.int .i32 b3))
      replace hr := ((((hr.fr g5 0 (by omega) (.int .i32 b0)).fr g5 1 (by omega) (.int .i32 b1)).fr g5 2 (by omega) (.int .i32 b2)).fr g5 3 (by omega) (.int .i32 b3))
      replace h4 := ((((h4.fr g5 0 (by omega) (.int .i32 b0)).fr g5 1 (by omega) (.int .i32 b1)).fr g5 2 (by omega) (.int .i32 b2)).fr g5 3 (by omega) (.int .i32 b3))
      replace h5 := ((((h5.set_ 0 (.int .i32 b0)).set_ 1 (.int .i32 b1)).set_ 2 (.int .i32 b2)).set_ 3 (.int .i32 b3))
      replace hbe := (((hbe.sc g5 0 (by omega) (.int .i32 b0)).sc g5 1 (by omega) (.int .i32 b1)).sc g5 2 (by omega) (.int .i32 b2)).sc g5 3 (by omega) (.int .i32 b3)
      clear c0 z0 c1 z1 c2 z2 c3 z3
      generalize ((((w49_6.setCell ⟨g5, 0, none⟩ (.int .i32 b0)).setCell ⟨g5, 1, none⟩ (.int .i32 b1)).setCell ⟨g5, 2, none⟩ (.int .i32 b2)).setCell ⟨g5, 3, none⟩ (.int .i32 b3)) = w50_7 at *
      refine hK.out _ _ ⟨hp.cell 0, hp.cell 1, hp.cell 2, hp.cell 3, hq.cell 0, hq.cell 1, hq.cell 2, hq.cell 3⟩ (fun hH => ?_)
      clear hK K
      try (simp only [Act.put, List.setIfInBounds_toArray, List.set_cons_zero, List.set_cons_succ])
      refine wpAnyH_done ?hrz50 ?hqz50 _
      case hrz50 => kernel_rfl
      refine NoPanic.normal ?_
      try go_wp2_with fail
      go_meet
      exact ⟨g4, g5, rfl, rfl, by omega, hr, h4, h5, by omega, by omega, hbe⟩
    case hc46_4 =>
     go_simp
     try go_wp2_with fail
     have lg4 := hr.lt
     have hne := h5.lt
     replace hp := hp.alloc (.cells #[.int .i32 0, .int .i32 0, .int .i32 0, .int .i32 0] 94)
     replace hq := hq.alloc (.cells #[.int .i32 0, .int .i32 0, .int .i32 0, .int .i32 0] 94)
     replace hr := hr.alloc (.cells #[.int .i32 0, .int .i32 0, .int .i32 0, .int .i32 0] 94)
     replace h5 := h5.alloc (.cells #[.int .i32 0, .int .i32 0, .int .i32 0, .int .i32 0] 94)
     have h4 := Blk.new w45_1 94 #[.int .i32 0, .int .i32 0, .int .i32 0, .int .i32 0]
     replace hbe := hbe.alloc hbe.size (.cells #[.int .i32 0, .int .i32 0, .int .i32 0, .int .i32 0] 94)
     generalize w45_1.alloc (.cells #[.int .i32 0, .int .i32 0, .int .i32 0, .int .i32 0] 94) = w46_4 at *
     generalize w45_1.heap.size = g4 at *
     refine hK.out _ _ ⟨hp.cell 0, hp.cell 1, hp.cell 2, hp.cell 3, hq.cell 0, hq.cell 1, hq.cell 2, hq.cell 3⟩ (fun hH => ?_)
     clear hK K
     try (simp only [Act.put, List.setIfInBounds_toArray, List.set_cons_zero, List.set_cons_succ])
     refine rd1 3 (fun K hK => ?hc51_3)
     case hc51_3 =>
      go_simp
      refine (HQ.out _).mono ?_
      rintro e w51_3 ⟨rfl, bb⟩
      go_wp2_with fail
      replace hp := hp.below bb hp.lt
      replace hq := hq.below bb hq.lt
      replace hr := hr.below bb hr.lt
      replace h4 := h4.below bb h4.lt
      replace h5 := h5.below bb h5.lt
      replace hbe := hbe.on bb
      clear bb
      refine hK.out _ _ ⟨hp.cell 0, hp.cell 1, hp.cell 2, hp.cell 3, hq.cell 0, hq.cell 1, hq.cell 2, hq.cell 3⟩ (fun hH => ?_)
      clear hK K
      try (simp only [Act.put, List.setIfInBounds_toArray, List.set_cons_zero, List.set_cons_succ])
      refine rd1 6 (fun K hK => ?hc53_6)
      have c0 : w51_3.cell? ⟨g4, 0, none⟩ = some (.int .i32 0) := h4.cell 0
      have z0 := h4.frozen 0
      have c1 : w51_3.cell? ⟨g4, 1, none⟩ = some (.int .i32 0) := h4.cell 1
      have z1 := h4.frozen 1
      have c2 : w51_3.cell? ⟨g4, 2, none⟩ = some (.int .i32 0) := h4.cell 2
      have z2 := h4.frozen 2
      have c3 : w51_3.cell? ⟨g4, 3, none⟩ = some (.int .i32 0) := h4.cell 3
      have z3 := h4.frozen 3
      go_simp
      try go_wp2_with fail
      replace hp := ((((hp.fr g4 0 (by omega) (.int .i32 a0)).fr g4 1 (by omega) (.int .i32 a1)).fr g4 2 (by omega) (.int .i32 a2)).fr g4 3 (by omega) (.int .i32 a3))
      replace hq := ((((hq.fr g4 0 (by omega) (.int .i32 a0)).fr g4 1 (by omega) (.int .i32 a1)).fr g4 2 (by omega) (.int .i32 a2)).fr g4 3 (by omega) (.int .i32 a3))
      replace hr := ((((hr.fr g4 0 (by omega) (.int .i32 a0)).fr g4 1 (by omega) (.int .i32 a1)).fr g4 2 (by omega) (.int .i32 a2)).fr g4 3 (by omega) (.int .i32 a3))
      replace h5 := ((((h5.fr g4 0 (by omega) (.int .i32 a0)).fr g4 1 (by omega) (.int .i32 a1)).fr g4 2 (by omega) (.int .i32 a2)).fr g4 3 (by omega) (.int .i32 a3))
      replace h4 := ((((h4.set_ 0 (.int .i32 a0)).set_ 1 (.int .i32 a1)).set_ 2 (.int .i32 a2)).set_ 3 (.int .i32 a3))
      replace hbe := (((hbe.sc g4 0 (by omega) (.int .i32 a0)).sc g4 1 (by omega) (.int .i32 a1)).sc g4 2 (by omega) (.int .i32 a2)).sc g4 3 (by omega) (.int .i32 a3)
      clear c0 z0 c1 z1 c2 z2 c3 z3
      generalize ((((w51_3.setCell ⟨g4, 0, none⟩ (.int .i32 a0)).setCell ⟨g4, 1, none⟩ (.int .i32 a1)).setCell ⟨g4, 2, none⟩ (.int .i32 a2)).setCell ⟨g4, 3, none⟩ (.int .i32 a3)) = w53_6 at *
      refine hK.out _ _ ⟨hp.cell 0, hp.cell 1, hp.cell 2, hp.cell 3, hq.cell 0, hq.cell 1, hq.cell 2, hq.cell 3⟩ (fun hH => ?_)
      clear hK K
      try (simp only [Act.put, List.setIfInBounds_toArray, List.set_cons_zero, List.set_cons_succ])
      refine rd1 7 (fun K hK => ?hc54_7)
      have c0 : w53_6.cell? ⟨g5, 0, none⟩ = some (.int .i32 0) := h5.cell 0
      have z0 := h5.frozen 0
      have c1 : w53_6.cell? ⟨g5, 1, none⟩ = some (.int .i32 0) := h5.cell 1
      have z1 := h5.frozen 1
      have c2 : w53_6.cell? ⟨g5, 2, none⟩ = some (.int .i32 0) := h5.cell 2
      have z2 := h5.frozen 2
      have c3 : w53_6.cell? ⟨g5, 3, none⟩ = some (.int .i32 0) := h5.cell 3
      have z3 := h5.frozen 3
      go_simp
      try go_wp2_with fail
      replace hp := ((((hp.fr g5 0 (by omega) (.int .i32 b0)).fr g5 1 (by omega) (.int .i32 b1)).fr g5 2 (by omega) (.int .i32 b2)).fr g5 3 (by omega) (.int .i32 b3))
      replace hq := ((((hq.fr g5 0 (by omega) (.int .i32 b0)).fr g5 1 (by omega) (.int .i32 b1)).fr g5 2 (by omega) (.int .i32 b2)).fr g5 3 (by omega) (.int .i32 b3))
      replace hr := ((((hr.fr g5 0 (by omega) (.int .i32 b0)).fr g5 1 (by omega) (.int .i32 b1)).fr g5 2 (by omega) (.int .i32 b2)).fr g5 3 (by omega) (.int .i32 b3))
      replace h4 := ((((h4.fr g5 0 (by omega) (.int .i32 b0)).fr g5 1 (by omega) (.int .i32 b1)).fr g5 2 (by omega) (.int .i32 b2)).fr g5 3 (by omega) (.int .i32 b3))
      replace h5 := ((((h5.set_ 0 (.int .i32 b0)).set_ 1 (.int .i32 b1)).set_ 2 (.int .i32 b2)).set_ 3 (.int .i32 b3))
      replace hbe := (((hbe.sc g5 0 (by omega) (.int .i32 b0)).sc g5 1 (by omega) (.int .i32 b1)).sc g5 2 (by omega) (.int .i32 b2)).sc g5 3 (by omega) (.int .i32 b3)
      clear c0 z0 c1 z1 c2 z2 c3 z3
      generalize ((((w53_6.setCell ⟨g5, 0, none⟩ (.int .i32 b0)).setCell ⟨g5, 1, none⟩ (.int .i32 b1)).setCell ⟨g5, 2, none⟩ (.int .i32 b2)).setCell ⟨g5, 3, none⟩ (.int .i32 b3)) = w54_7 at *
      refine hK.out _ _ ⟨hp.cell 0, hp.cell 1, hp.cell 2, hp.cell 3, hq.cell 0, hq.cell 1, hq.cell 2, hq.cell 3⟩ (fun hH => ?_)
      clear hK K
      try (simp only [Act.put, List.setIfInBounds_toArray, List.set_cons_zero, List.set_cons_succ])
      refine wpAnyH_done ?hrz54 ?hqz54 _
      case hrz54 => kernel_rfl
      refine NoPanic.normal ?_
      try go_wp2_with fail
      go_meet
      exact ⟨g4, g5, rfl, rfl, by omega, hr, h4, h5, by omega, by omega, hbe⟩
   case hc45_4 =>
    go_simp
    try go_wp2_with fail
    have lg4 := hr.lt
    have hne := h5.lt
    replace hp := hp.alloc (.cells #[.int .i32 0, .int .i32 0, .int .i32 0, .int .i32 0] 94)
    replace hq := hq.alloc (.cells #[.int .i32 0, .int .i32 0, .int .i32 0, .int .i32 0] 94)
    replace hr := hr.alloc (.cells #[.int .i32 0, .int .i32 0, .int .i32 0, .int .i32 0] 94)
    replace h5 := h5.alloc (.cells #[.int .i32 0, .int .i32 0, .int .i32 0, .int .i32 0] 94)
    have h4 := Blk.new w1_5 94 #[.int .i32 0, .int .i32 0, .int .i32 0, .int .i32 0]
    replace hbe := hbe.alloc hbe.size (.cells #[.int .i32 0, .int .i32 0, .int .i32 0, .int .i32 0] 94)
    generalize w1_5.alloc (.cells #[.int .i32 0, .int .i32 0, .int .i32 0, .int .i32 0] 94) = w45_4 at *
    generalize w1_5.heap.size = g4 at *
    refine hK.out _ _ ⟨hp.cell 0, hp.cell 1, hp.cell 2, hp.cell 3, hq.cell 0, hq.cell 1, hq.cell 2, hq.cell 3⟩ (fun hH => ?_)
    clear hK K
    try (simp only [Act.put, List.setIfInBounds_toArray, List.set_cons_zero, List.set_cons_succ])
    refine rd1 1 (fun K hK => ?hc55_1)
    case hc55_1 =>
     go_simp
     refine (HP.out _).mono ?_
     rintro e w55_1 ⟨rfl, bb⟩
     go_wp2_with fail
     replace hp := hp.below bb hp.lt
     replace hq := hq.below bb hq.lt
     replace hr := hr.below bb hr.lt
     replace h4 := h4.below bb h4.lt
     replace h5 := h5.below bb h5.lt
     replace hbe := hbe.on bb
     clear bb
     refine hK.out _ _ ⟨hp.cell 0, hp.cell 1, hp.cell 2, hp.cell 3, hq.cell 0, hq.cell 1, hq.cell 2, hq.cell 3⟩ (fun hH => ?_)
     clear hK K
     try (simp only [Act.put, List.setIfInBounds_toArray, List.set_cons_zero, List.set_cons_succ])
     refine rd1 3 (fun K hK => ?hc56_3)
     case hc56_3 =>
      go_simp
      refine (HQ.out _).mono ?_
      rintro e w56_3 ⟨rfl, bb⟩
      go_wp2_with fail
      replace hp := hp.below bb hp.lt
      replace hq := hq.below bb hq.lt
      replace hr := hr.below bb hr.lt
      replace h4 := h4.below bb h4.lt
      replace h5 := h5.below bb h5.lt
      replace hbe := hbe.on bb
      clear bb
      refine hK.out _ _ ⟨hp.cell 0, hp.cell 1, hp.cell 2, hp.cell 3, hq.cell 0, hq.cell 1, hq.cell 2, hq.cell 3⟩ (fun hH => ?_)
      clear hK K
      try (simp only [Act.put, List.setIfInBounds_toArray, List.set_cons_zero, List.set_cons_succ])
      refine rd1 6 (fun K hK => ?hc58_6)
      have c0 : w56_3.cell? ⟨g4, 0, none⟩ = some (.int .i32 0) := h4.cell 0
      have z0 := h4.frozen 0
      have c1 : w56_3.cell? ⟨g4, 1, none⟩ = some (.int .i32 0) := h4.cell 1
      have z1 := h4.frozen 1
      have c2 : w56_3.cell? ⟨g4, 2, none⟩ = some (.int .i32 0) := h4.cell 2
      have z2 := h4.frozen 2
      have c3 : w56_3.cell? ⟨g4, 3, none⟩ = some (.int .i32 0) := h4.cell 3
      have z3 := h4.frozen 3
      go_simp
      try go_wp2_with fail
      replace hp := ((((hp.fr g4 0 (by omega) (.int .i32 a0)).fr g4 1 (by omega) (.int .i32 a1)).fr g4 2 (by omega) (.int .i32 a2)).fr g4 3 (by omega) (.int .i32 a3))
      replace hq := ((((hq.fr g4 0 (by omega) (.int .i32 a0)).fr g4 1 (by omega) (.int .i32 a1)).fr g4 2 (by omega) (.int .i32 a2)).fr g4 3 (by omega) (.int .i32 a3))
      replace hr := ((((hr.fr g4 0 (by omega) (.int .i32 a0)).fr g4 1 (by omega) (.int .i32 a1)).fr g4 2 (by omega) (.int .i32 a2)).fr g4 3 (by omega) (.int .i32 a3))
      replace h5 := ((((h5.fr g4 0 (by omega) (.int .i32 a0)).fr g4 1 (by omega) (.int .i32 a1)).fr g4 2 (by omega) (.int .i32 a2)).fr g4 3 (by omega) (.int .i32 a3))
      replace h4 := ((((h4.set_ 0 (.int .i32 a0)).set_ 1 (.int .i32 a1)).set_ 2 (.int .i32 a2)).set_ 3 (.int .i32 a3))
      replace hbe := (((hbe.sc g4 0 (by omega) (.int .i32 a0)).sc g4 1 (by omega) (.int .i32 a1)).sc g4 2 (by omega) (.int .i32 a2)).sc g4 3 (by omega) (.int .i32 a3)
      clear c0 z0 c1 z1 c2 z2 c3 z3
      generalize ((((w56_3.setCell ⟨g4, 0, none⟩ (.int .i32 a0)).setCell ⟨g4, 1, none⟩ (.int .i32 a1)).setCell ⟨g4, 2, none⟩ (.int .i32 a2)).setCell ⟨g4, 3, none⟩ (.int .i32 a3)) = w58_6 at *
      refine hK.out _ _ ⟨hp.cell 0, hp.cell 1, hp.cell 2, hp.cell 3, hq.cell 0, hq.cell 1, hq.cell 2, hq.cell 3⟩ (fun hH => ?_)
      clear hK K
      try (simp only [Act.put, List.setIfInBounds_toArray, List.set_cons_zero, List.set_cons_succ])
      refine rd1 7 (fun K hK => ?hc59_7)
      have c0 : w58_6.cell? ⟨g5, 0, none⟩ = some (.int .i32 0) := h5.cell 0
      have z0 := h5.frozen 0
      have c1 : w58_6.cell? ⟨g5, 1, none⟩ = some (.int .i32 0) := h5.cell 1
      have z1 := h5.frozen 1
      have c2 : w58_6.cell? ⟨g5, 2, none⟩ = some (.int .i32 0) := h5.cell 2
      have z2 := h5.frozen 2
      have c3 : w58_6.cell? ⟨g5, 3, none⟩ = some (.int .i32 0) := h5.cell 3
      have z3 := h5.frozen 3
      go_simp
      try go_wp2_with fail
      replace hp := ((((hp.fr g5 0 (by omega) (.int .i32 b0)).fr g5 1 (by omega) (.int .i32 b1)).fr g5 2 (by omega) (.int .i32 b2)).fr g5 3 (by omega) (.int .i32 b3))
      replace hq := ((((hq.fr g5 0 (by omega) (.int .i32 b0)).fr g5 1 (by omega) (.int .i32 b1)).fr g5 2 (by omega) (.int .i32 b2)).fr g5 3 (by omega) (.int .i32 b3))
      replace hr := ((((hr.fr g5 0 (by omega) (.int .i32 b0)).fr g5 1 (by omega) (.int .i32 b1)).fr g5 2 (by omega) (.int .i32 b2)).fr g5 3 (by omega) (.int .i32 b3))
      replace h4 := ((((h4.fr g5 0 (by omega) (.int .i32 b0)).fr g5 1 (by omega) (.int .i32 b1)).fr g5 2 (by omega) (.int .i32 b2)).fr g5 3 (by omega) (.int .i32 b3))
      replace h5 := ((((h5.set_ 0 (.int .i32 b0)).set_ 1 (.int .i32 b1)).set_ 2 (.int .i32 b2)).set_ 3 (.int .i32 b3))
      replace hbe := (((hbe.sc g5 0 (by omega) (.int .i32 b0)).sc g5 1 (by omega) (.int .i32 b1)).sc g5 2 (by omega) (.int .i32 b2)).sc g5 3 (by omega) (.int .i32 b3)
      clear c0 z0 c1 z1 c2 z2 c3 z3
      generalize ((((w58_6.setCell ⟨g5, 0, none⟩ (.int .i32 b0)).setCell ⟨g5, 1, none⟩ (.int .i32 b1)).setCell ⟨g5, 2, none⟩ (.int .i32 b2)).setCell ⟨g5, 3, none⟩ (.int .i32 b3)) = w59_7 at *
      refine hK.out _ _ ⟨hp.cell 0, hp.cell 1, hp.cell 2, hp.cell 3, hq.cell 0, hq.cell 1, hq.cell 2, hq.cell 3⟩ (fun hH => ?_)
      clear hK K
      try (simp only [Act.put, List.setIfInBounds_toArray, List.set_cons_zero, List.set_cons_succ])
      refine wpAnyH_done ?hrz59 ?hqz59 _
      case hrz59 => kernel_rfl
      refine NoPanic.normal ?_
      try go_wp2_with fail
      go_meet
      exact ⟨g4, g5, rfl, rfl, by omega, hr, h4, h5, by omega, by omega, hbe⟩
 case rest =>
  clear hp hq hr hbe
  obtain ⟨g, h, rfl, rfl, hgh, hr, h4, h5, hg2, hh2, hbe⟩ := hcut
  go_wp2_with fail
  have l4 := h4.lt
  have l5 := h5.lt
  replace hr := hr.alloc (.cells #[.int .i64 0, .int .i64 0, .int .i64 0, .int .i64 0] 129)
  replace h4 := h4.alloc (.cells #[.int .i64 0, .int .i64 0, .int .i64 0, .int .i64 0] 129)
  replace h5 := h5.alloc (.cells #[.int .i64 0, .int .i64 0, .int .i64 0, .int .i64 0] 129)
  have h8 := Blk.new wc 129 #[.int .i64 0, .int .i64 0, .int .i64 0, .int .i64 0]
  replace hbe := hbe.alloc hbe.size (.cells #[.int .i64 0, .int .i64 0, .int .i64 0, .int .i64 0] 129)
  generalize wc.alloc (.cells #[.int .i64 0, .int .i64 0, .int .i64 0, .int .i64 0] 129) = wd at *
  generalize wc.heap.size = o at *
  go_loopw [17] (fun i wr => ∃ I l0 l1 l2 l3 : Int, i = .int .i64 I ∧ Hid (Mul4 a0 a1 a2 a3 b0 b1 b2 b3 I l0 l1 l2 l3) ∧ Blk wr (w.heap.size + 1 + 1) 23 #[.int .i32 0, .int .i32 0, .int .i32 0, .int .i32 0] ∧ Blk wr g 94 #[.int .i32 a0, .int .i32 a1, .int .i32 a2, .int .i32 a3] ∧ Blk wr h 94 #[.int .i32 b0, .int .i32 b1, .int .i32 b2, .int .i32 b3] ∧ Blk wr o 129 #[.int .i64 l0, .int .i64 l1, .int .i64 l2, .int .i64 l3] ∧ Below w.heap.size w wr) (fun i _ => 4 - (intOf i).toNat)
  case atStart => exact ⟨0, 0, 0, 0, 0, rfl, .inl ⟨rfl, rfl, rfl, rfl, rfl⟩, hr, h4, h5, h8, hbe⟩
  case round =>
   clear hr h4 h5 h8 hbe
   obtain ⟨I, l0, l1, l2, l3, rfl, hcut, hr, h4, h5, h8, hbe⟩ := hrel
   rcases hcut.out with ⟨rfl, e0, e1, e2, e3⟩ | ⟨rfl, e0, e1, e2, e3⟩ | ⟨rfl, e0, e1, e2, e3⟩ | ⟨rfl, e0, e1, e2, e3⟩ | ⟨rfl, e0, e1, e2, e3⟩
   ·have E := hid (show l0 = 0 ∧ l1 = 0 ∧ l2 = 0 ∧ l3 = 0 from ⟨e0, e1, e2, e3⟩)
    clear e0 e1 e2 e3 hcut
    go_wp2_with fail
    go_loopw [20] (fun j wr => ∃ J l0 l1 l2 l3 : Int, j = .int .i64 J ∧ Hid (MulI0 a0 a1 a2 a3 b0 b1 b2 b3 J l0 l1 l2 l3) ∧ Blk wr (w.heap.size + 1 + 1) 23 #[.int .i32 0, .int .i32 0, .int .i32 0, .int .i32 0] ∧ Blk wr g 94 #[.int .i32 a0, .int .i32 a1, .int .i32 a2, .int .i32 a3] ∧ Blk wr h 94 #[.int .i32 b0, .int .i32 b1, .int .i32 b2, .int .i32 b3] ∧ Blk wr o 129 #[.int .i64 l0, .int .i64 l1, .int .i64 l2, .int .i64 l3] ∧ Below w.heap.size w wr) (fun j _ => 4 - (intOf j).toNat)
    case atStart => exact ⟨0, l0, l1, l2, l3, rfl, .inl ⟨rfl, E.out⟩, hr, h4, h5, h8, hbe⟩
    case round =>
     clear hr h4 h5 h8 hbe E
     obtain ⟨J, l0, l1, l2, l3, rfl, hcut, hr, h4, h5, h8, hbe⟩ := hrel
     rcases hcut.out with ⟨rfl, e0, e1, e2, e3⟩ | ⟨rfl, e0, e1, e2, e3⟩ | ⟨rfl, e0, e1, e2, e3⟩ | ⟨rfl, e0, e1, e2, e3⟩ | ⟨rfl, e0, e1, e2, e3⟩
     ·have E := hid (show l0 = 0 ∧ l1 = 0 ∧ l2 = 0 ∧ l3 = 0 from ⟨e0, e1, e2, e3⟩)
      have hbd : (-4294967297 ≤ tmP a0 b0 ∧ tmP a0 b0 ≤ 4294967297) ∧ -17179869188 ≤ l0 ∧ l0 ≤ 17179869188 := by
       have := HB.out
       unfold MulB at this
       omega
      obtain ⟨⟨m1, m2⟩, m3, m4⟩ := hbd
      clear e0 e1 e2 e3 hcut
      have u1 : IntKind.i64.wrap (tmP a0 b0) = tmP a0 b0 := IntWalk.i64_in _ (by omega)
      have u2 : IntKind.i64.wrap (l0 + tmP a0 b0) = l0 + tmP a0 b0 := IntWalk.i64_in _ (by omega)
      go_wp2_with fail
      refine (HPL.out 0 0 0 (1) _ (by simp)).mono ?_
      rintro e w1 ⟨rfl, bb⟩
      replace hr := hr.below bb hr.lt
      replace h4 := h4.below bb h4.lt
      replace h5 := h5.below bb h5.lt
      replace h8 := h8.below bb h8.lt
      replace hbe := hbe.on bb
      clear bb
      go_wp2_with fail
      refine wp_region_noPanic ?_
      refine wp_region_held_drew (S := fun w' : World => w'.cell? ⟨g, 0, none⟩ = some (.int .i32 a0) ∧ w'.cell? ⟨h, 0, none⟩ = some (.int .i32 b0)) (by kernel_rfl) ⟨h4.cell 0, h5.cell 0⟩ (fun hH => ?_)
      refine (show wpAnyH _ _ _ _ _ 15 _ _ _ from ?_)
      try (simp only [Act.put, List.setIfInBounds_toArray, List.set_cons_zero, List.set_cons_succ])
      replace hr := hr.drew
      replace h4 := h4.drew
      replace h5 := h5.drew
      replace h8 := h8.drew
      replace hbe := hbe.drew
      generalize w1.drew = w2 at *
      refine tk 0 hH ?_
      refine tk 1 hH ?_
      refine tk 3 hH ?_
      refine tk 4 hH ?_
      refine tk 5 hH ?_
      refine tk 6 hH ?_
      refine tk 7 hH ?_
      refine tk 8 hH ?_
      refine tk 9 hH ?_
      refine rd2 2 10 (fun K hK => ?hcx00_2) (fun K hK => ?hcx00_10)
      case hcx00_2 =>
       have c0 : w2.cell? ⟨o, 0, none⟩ = some (.int .i64 l0) := h8.cell 0
       go_simp
       try go_wp2_with fail
       clear c0
       refine hK.out _ _ ⟨h4.cell 0, h5.cell 0⟩ (fun hH => ?_)
       clear hK K
       try (simp only [Act.put, List.setIfInBounds_toArray, List.set_cons_zero, List.set_cons_succ])
       refine rd1 10 (fun K hK => ?hcx00a_10)
       case hcx00a_10 =>
        go_simp
        refine (HT00.out _).mono ?_
        rintro e w3 ⟨rfl, bb⟩
        go_wp2_with fail
        replace hr := hr.below bb hr.lt
        replace h4 := h4.below bb h4.lt
        replace h5 := h5.below bb h5.lt
        replace h8 := h8.below bb h8.lt
        replace hbe := hbe.on bb
        clear bb
        refine hK.out _ _ ⟨h4.cell 0, h5.cell 0⟩ (fun hH => ?_)
        clear hK K
        try (simp only [Act.put, List.setIfInBounds_toArray, List.set_cons_zero, List.set_cons_succ])
        refine tk 11 hH ?_
        refine tk 12 hH ?_
        refine tk 13 hH ?_
        refine rd1 14 (fun K hK => ?hcx00as_14)
        case hcx00as_14 =>
         have c0 : w3.cell? ⟨o, 0, none⟩ = some (.int .i64 l0) := h8.cell 0
         have z0 := h8.frozen 0
         go_simp
         try go_wp2_with fail
         clear c0 z0
         have lr := hr.lt
         replace hr := hr.fr o 0 (by omega) (.int .i64 (l0 + tmP a0 b0))
         replace h4 := h4.fr o 0 (by omega) (.int .i64 (l0 + tmP a0 b0))
         replace h5 := h5.fr o 0 (by omega) (.int .i64 (l0 + tmP a0 b0))
         replace h8 : Blk (w3.setCell ⟨o, 0, none⟩ (.int .i64 (l0 + tmP a0 b0))) o 129 #[.int .i64 (l0 + tmP a0 b0), .int .i64 (l1), .int .i64 (l2), .int .i64 (l3)] := by have := h8.set_ 0 (.int .i64 (l0 + tmP a0 b0)); simpa using this
         replace hbe := hbe.sc o 0 (by omega) (.int .i64 (l0 + tmP a0 b0))
         generalize w3.setCell ⟨o, 0, none⟩ (.int .i64 (l0 + tmP a0 b0)) = wz at *
         refine hK.out _ _ ⟨h4.cell 0, h5.cell 0⟩ (fun hH => ?_)
         clear hK K
         try (simp only [Act.put, List.setIfInBounds_toArray, List.set_cons_zero, List.set_cons_succ])
         refine wpAnyH_done ?hrzr00a ?hqzr00a _
         case hrzr00a => kernel_rfl
         refine NoPanic.normal ?_
         go_wp2
         go_roundw
         case rel => exact ⟨1, l0 + tmP a0 b0, l1, l2, l3, rfl, .inr <| .inl ⟨rfl, by have := E.out; omega⟩, hr, h4, h5, h8, hbe⟩
         case measure => simp [intOf]
      case hcx00_10 =>
       go_simp
       refine (HT00.out _).mono ?_
       rintro e w3 ⟨rfl, bb⟩
       go_wp2_with fail
       replace hr := hr.below bb hr.lt
       replace h4 := h4.below bb h4.lt
       replace h5 := h5.below bb h5.lt
       replace h8 := h8.below bb h8.lt
       replace hbe := hbe.on bb
       clear bb
       refine hK.out _ _ ⟨h4.cell 0, h5.cell 0⟩ (fun hH => ?_)
       clear hK K
       try (simp only [Act.put, List.setIfInBounds_toArray, List.set_cons_zero, List.set_cons_succ])
       refine tk 11 hH ?_
       refine rd1 2 (fun K hK => ?hcx00b_2)
       case hcx00b_2 =>
        have c0 : w3.cell? ⟨o, 0, none⟩ = some (.int .i64 l0) := h8.cell 0
        go_simp
        try go_wp2_with fail
        clear c0
        refine hK.out _ _ ⟨h4.cell 0, h5.cell 0⟩ (fun hH => ?_)
        clear hK K
        try (simp only [Act.put, List.setIfInBounds_toArray, List.set_cons_zero, List.set_cons_succ])
        refine tk 12 hH ?_
        refine tk 13 hH ?_
        refine rd1 14 (fun K hK => ?hcx00bs_14)
        case hcx00bs_14 =>
         have c0 : w3.cell? ⟨o, 0, none⟩ = some (.int .i64 l0) := h8.cell 0
         have z0 := h8.frozen 0
         go_simp
         try go_wp2_with fail
         clear c0 z0
         have lr := hr.lt
         replace hr := hr.fr o 0 (by omega) (.int .i64 (l0 + tmP a0 b0))
         replace h4 := h4.fr o 0 (by omega) (.int .i64 (l0 + tmP a0 b0))
         replace h5 := h5.fr o 0 (by omega) (.int .i64 (l0 + tmP a0 b0))
         replace h8 : Blk (w3.setCell ⟨o, 0, none⟩ (.int .i64 (l0 + tmP a0 b0))) o 129 #[.int .i64 (l0 + tmP a0 b0), .int .i64 (l1), .int .i64 (l2), .int .i64 (l3)] := by have := h8.set_ 0 (.int .i64 (l0 + tmP a0 b0)); simpa using this
         replace hbe := hbe.sc o 0 (by omega) (.int .i64 (l0 + tmP a0 b0))
         generalize w3.setCell ⟨o, 0, none⟩ (.int .i64 (l0 + tmP a0 b0)) = wz at *
         refine hK.out _ _ ⟨h4.cell 0, h5.cell 0⟩ (fun hH => ?_)
         clear hK K
         try (simp only [Act.put, List.setIfInBounds_toArray, List.set_cons_zero, List.set_cons_succ])
         refine wpAnyH_done ?hrzr00b ?hqzr00b _
         case hrzr00b => kernel_rfl
         refine NoPanic.normal ?_
         go_wp2
         go_roundw
         case rel => exact ⟨1, l0 + tmP a0 b0, l1, l2, l3, rfl, .inr <| .inl ⟨rfl, by have := E.out; omega⟩, hr, h4, h5, h8, hbe⟩
         case measure => simp [intOf]
     ·have E := hid (show l0 = 0 + tmP a0 b0 ∧ l1 = 0 ∧ l2 = 0 ∧ l3 = 0 from ⟨e0, e1, e2, e3⟩)
      have hbd : (-4294967297 ≤ tmP a0 b1 ∧ tmP a0 b1 ≤ 4294967297) ∧ -17179869188 ≤ l1 ∧ l1 ≤ 17179869188 := by
       have := HB.out
       unfold MulB at this
       omega
      obtain ⟨⟨m1, m2⟩, m3, m4⟩ := hbd
      clear e0 e1 e2 e3 hcut
      have u1 : IntKind.i64.wrap (tmP a0 b1) = tmP a0 b1 := IntWalk.i64_in _ (by omega)
      have u2 : IntKind.i64.wrap (l1 + tmP a0 b1) = l1 + tmP a0 b1 := IntWalk.i64_in _ (by omega)
      go_wp2_with fail
      refine (HPL.out 0 1 1 (1) _ (by simp)).mono ?_
      rintro e w1 ⟨rfl, bb⟩
      replace hr := hr.below bb hr.lt
      replace h4 := h4.below bb h4.lt
      replace h5 := h5.below bb h5.lt
      replace h8 := h8.below bb h8.lt
      replace hbe := hbe.on bb
      clear bb
      go_wp2_with fail
      refine wp_region_noPanic ?_
      refine wp_region_held_drew (S := fun w' : World => w'.cell? ⟨g, 0, none⟩ = some (.int .i32 a0) ∧ w'.cell? ⟨h, 1, none⟩ = some (.int .i32 b1)) (by kernel_rfl) ⟨h4.cell 0, h5.cell 1⟩ (fun hH => ?_)
      refine (show wpAnyH _ _ _ _ _ 15 _ _ _ from ?_)
      try (simp only [Act.put, List.setIfInBounds_toArray, List.set_cons_zero, List.set_cons_succ])
      replace hr := hr.drew
      replace h4 := h4.drew
      replace h5 := h5.drew
      replace h8 := h8.drew
      replace hbe := hbe.drew
      generalize w1.drew = w2 at *
      refine tk 0 hH ?_
      refine tk 1 hH ?_
      refine tk 3 hH ?_
      refine tk 4 hH ?_
      refine tk 5 hH ?_
      refine tk 6 hH ?_
      refine tk 7 hH ?_
      refine tk 8 hH ?_
      refine tk 9 hH ?_
      refine rd2 2 10 (fun K hK => ?hcx01_2) (fun K hK => ?hcx01_10)
      case hcx01_2 =>
       have c0 : w2.cell? ⟨o, 1, none⟩ = some (.int .i64 l1) := h8.cell 1
       go_simp
       try go_wp2_with fail
       clear c0
       refine hK.out _ _ ⟨h4.cell 0, h5.cell 1⟩ (fun hH => ?_)
       clear hK K
       try (simp only [Act.put, List.setIfInBounds_toArray, List.set_cons_zero, List.set_cons_succ])
       refine rd1 10 (fun K hK => ?hcx01a_10)
       case hcx01a_10 =>
        go_simp
        refine (HT01.out _).mono ?_
        rintro e w3 ⟨rfl, bb⟩
        go_wp2_with fail
        replace hr := hr.below bb hr.lt
        replace h4 := h4.below bb h4.lt
        replace h5 := h5.below bb h5.lt
        replace h8 := h8.below bb h8.lt
        replace hbe := hbe.on bb
        clear bb
        refine hK.out _ _ ⟨h4.cell 0, h5.cell 1⟩ (fun hH => ?_)
        clear hK K
        try (simp only [Act.put, List.setIfInBounds_toArray, List.set_cons_zero, List.set_cons_succ])
        refine tk 11 hH ?_
        refine tk 12 hH ?_
        refine tk 13 hH ?_
        refine rd1 14 (fun K hK => ?hcx01as_14)
        case hcx01as_14 =>
         have c0 : w3.cell? ⟨o, 1, none⟩ = some (.int .i64 l1) := h8.cell 1
         have z0 := h8.frozen 1
         go_simp
         try go_wp2_with fail
         clear c0 z0
         have lr := hr.lt
         replace hr := hr.fr o 1 (by omega) (.int .i64 (l1 + tmP a0 b1))
         replace h4 := h4.fr o 1 (by omega) (.int .i64 (l1 + tmP a0 b1))
         replace h5 := h5.fr o 1 (by omega) (.int .i64 (l1 + tmP a0 b1))
         replace h8 : Blk (w3.setCell ⟨o, 1, none⟩ (.int .i64 (l1 + tmP a0 b1))) o 129 #[.int .i64 (l0), .int .i64 (l1 + tmP a0 b1), .int .i64 (l2), .int .i64 (l3)] := by have := h8.set_ 1 (.int .i64 (l1 + tmP a0 b1)); simpa using this
         replace hbe := hbe.sc o 1 (by omega) (.int .i64 (l1 + tmP a0 b1))
         generalize w3.setCell ⟨o, 1, none⟩ (.int .i64 (l1 + tmP a0 b1)) = wz at *
         refine hK.out _ _ ⟨h4.cell 0, h5.cell 1⟩ (fun hH => ?_)
         clear hK K
         try (simp only [Act.put, List.setIfInBounds_toArray, List.set_cons_zero, List.set_cons_succ])
         refine wpAnyH_done ?hrzr01a ?hqzr01a _
         case hrzr01a => kernel_rfl
         refine NoPanic.normal ?_
         go_wp2
         go_roundw
         case rel => exact ⟨2, l0, l1 + tmP a0 b1, l2, l3, rfl, .inr <| .inr <| .inl ⟨rfl, by have := E.out; omega⟩, hr, h4, h5, h8, hbe⟩
         case measure => simp [intOf]
      case hcx01_10 =>
       go_simp
       refine (HT01.out _).mono ?_
       rintro e w3 ⟨rfl, bb⟩
       go_wp2_with fail
       replace hr := hr.below bb hr.lt
       replace h4 := h4.below bb h4.lt
       replace h5 := h5.below bb h5.lt
       replace h8 := h8.below bb h8.lt
       replace hbe := hbe.on bb
       clear bb
       refine hK.out _ _ ⟨h4.cell 0, h5.cell 1⟩ (fun hH => ?_)
       clear hK K
       try (simp only [Act.put, List.setIfInBounds_toArray, List.set_cons_zero, List.set_cons_succ])
       refine tk 11 hH ?_
       refine rd1 2 (fun K hK => ?hcx01b_2)
       case hcx01b_2 =>
        have c0 : w3.cell? ⟨o, 1, none⟩ = some (.int .i64 l1) := h8.cell 1
        go_simp
        try go_wp2_with fail
        clear c0
        refine hK.out _ _ ⟨h4.cell 0, h5.cell 1⟩ (fun hH => ?_)
        clear hK K
        try (simp only [Act.put, List.setIfInBounds_toArray, List.set_cons_zero, List.set_cons_succ])
        refine tk 12 hH ?_
        refine tk 13 hH ?_
        refine rd1 14 (fun K hK => ?hcx01bs_14)
        case hcx01bs_14 =>
         have c0 : w3.cell? ⟨o, 1, none⟩ = some (.int .i64 l1) := h8.cell 1
         have z0 := h8.frozen 1
         go_simp
         try go_wp2_with fail
         clear c0 z0
         have lr := hr.lt
         replace hr := hr.fr o 1 (by omega) (.int .i64 (l1 + tmP a0 b1))
         replace h4 := h4.fr o 1 (by omega) (.int .i64 (l1 + tmP a0 b1))
         replace h5 := h5.fr o 1 (by omega) (.int .i64 (l1 + tmP a0 b1))
         replace h8 : Blk (w3.setCell ⟨o, 1, none⟩ (.int .i64 (l1 + tmP a0 b1))) o 129 #[.int .i64 (l0), .int .i64 (l1 + tmP a0 b1), .int .i64 (l2), .int .i64 (l3)] := by have := h8.set_ 1 (.int .i64 (l1 + tmP a0 b1)); simpa using this
         replace hbe := hbe.sc o 1 (by omega) (.int .i64 (l1 + tmP a0 b1))
         generalize w3.setCell ⟨o, 1, none⟩ (.int .i64 (l1 + tmP a0 b1)) = wz at *
         refine hK.out _ _ ⟨h4.cell 0, h5.cell 1⟩ (fun hH => ?_)
         clear hK K
         try (simp only [Act.put, List.setIfInBounds_toArray, List.set_cons_zero, List.set_cons_succ])
         refine wpAnyH_done ?hrzr01b ?hqzr01b _
         case hrzr01b => kernel_rfl
         refine NoPanic.normal ?_
         go_wp2
         go_roundw
         case rel => exact ⟨2, l0, l1 + tmP a0 b1, l2, l3, rfl, .inr <| .inr <| .inl ⟨rfl, by have := E.out; omega⟩, hr, h4, h5, h8, hbe⟩
         case measure => simp [intOf]
     ·have E := hid (show l0 = 0 + tmP a0 b0 ∧ l1 = 0 + tmP a0 b1 ∧ l2 = 0 ∧ l3 = 0 from ⟨e0, e1, e2, e3⟩)
      have hbd : (-4294967297 ≤ tmP a0 b2 ∧ tmP a0 b2 ≤ 4294967297) ∧ -17179869188 ≤ l2 ∧ l2 ≤ 17179869188 := by
       have := HB.out
       unfold MulB at this
       omega
      obtain ⟨⟨m1, m2⟩, m3, m4⟩ := hbd
      clear e0 e1 e2 e3 hcut
      have u1 : IntKind.i64.wrap (tmP a0 b2) = tmP a0 b2 := IntWalk.i64_in _ (by omega)
      have u2 : IntKind.i64.wrap (l2 + tmP a0 b2) = l2 + tmP a0 b2 := IntWalk.i64_in _ (by omega)
      go_wp2_with fail
      refine (HPL.out 0 2 2 (1) _ (by simp)).mono ?_
      rintro e w1 ⟨rfl, bb⟩
      replace hr := hr.below bb hr.lt
      replace h4 := h4.below bb h4.lt
      replace h5 := h5.below bb h5.lt
      replace h8 := h8.below bb h8.lt
      replace hbe := hbe.on bb
      clear bb
      go_wp2_with fail
      refine wp_region_noPanic ?_
      refine wp_region_held_drew (S := fun w' : World => w'.cell? ⟨g, 0, none⟩ = some (.int .i32 a0) ∧ w'.cell? ⟨h, 2, none⟩ = some (.int .i32 b2)) (by kernel_rfl) ⟨h4.cell 0, h5.cell 2⟩ (fun hH => ?_)
      refine (show wpAnyH _ _ _ _ _ 15 _ _ _ from ?_)
      try (simp only [Act.put, List.setIfInBounds_toArray, List.set_cons_zero, List.set_cons_succ])
      replace hr := hr.drew
      replace h4 := h4.drew
      replace h5 := h5.drew
      replace h8 := h8.drew
      replace hbe := hbe.drew
      generalize w1.drew = w2 at *
      refine tk 0 hH ?_
      refine tk 1 hH ?_
      refine tk 3 hH ?_
      refine tk 4 hH ?_
      refine tk 5 hH ?_
      refine tk 6 hH ?_
      refine tk 7 hH ?_
      refine tk 8 hH ?_
      refine tk 9 hH ?_
      refine rd2 2 10 (fun K hK => ?hcx02_2) (fun K hK => ?hcx02_10)
      case hcx02_2 =>
       have c0 : w2.cell? ⟨o, 2, none⟩ = some (.int .i64 l2) := h8.cell 2
       go_simp
       try go_wp2_with fail
       clear c0
       refine hK.out _ _ ⟨h4.cell 0, h5.cell 2⟩ (fun hH => ?_)
       clear hK K
       try (simp only [Act.put, List.setIfInBounds_toArray, List.set_cons_zero, List.set_cons_succ])
       refine rd1 10 (fun K hK => ?hcx02a_10)
       case hcx02a_10 =>
        go_simp
        refine (HT02.out _).mono ?_
        rintro e w3 ⟨rfl, bb⟩
        go_wp2_with fail
        replace hr := hr.below bb hr.lt
        replace h4 := h4.below bb h4.lt
        replace h5 := h5.below bb h5.lt
        replace h8 := h8.below bb h8.lt
        replace hbe := hbe.on bb
        clear bb
        refine hK.out _ _ ⟨h4.cell 0, h5.cell 2⟩ (fun hH => ?_)
        clear hK K
        try (simp only [Act.put, List.setIfInBounds_toArray, List.set_cons_zero, List.set_cons_succ])
        refine tk 11 hH ?_
        refine tk 12 hH ?_
        refine tk 13 hH ?_
        refine rd1 14 (fun K hK => ?hcx02as_14)
        case hcx02as_14 =>
         have c0 : w3.cell? ⟨o, 2, none⟩ = some (.int .i64 l2) := h8.cell 2
         have z0 := h8.frozen 2
         go_simp
         try go_wp2_with fail
         clear c0 z0
         have lr := hr.lt
         replace hr := hr.fr o 2 (by omega) (.int .i64 (l2 + tmP a0 b2))
         replace h4 := h4.fr o 2 (by omega) (.int .i64 (l2 + tmP a0 b2))
         replace h5 := h5.fr o 2 (by omega) (.int .i64 (l2 + tmP a0 b2))
         replace h8 : Blk (w3.setCell ⟨o, 2, none⟩ (.int .i64 (l2 + tmP a0 b2))) o 129 #[.int .i64 (l0), .int .i64 (l1), .int .i64 (l2 + tmP a0 b2), .int .i64 (l3)] := by have := h8.set_ 2 (.int .i64 (l2 + tmP a0 b2)); simpa using this
         replace hbe := hbe.sc o 2 (by omega) (.int .i64 (l2 + tmP a0 b2))
         generalize w3.setCell ⟨o, 2, none⟩ (.int .i64 (l2 + tmP a0 b2)) = wz at *
         refine hK.out _ _ ⟨h4.cell 0, h5.cell 2⟩ (fun hH => ?_)
         clear hK K
         try (simp only [Act.put, List.setIfInBounds_toArray, List.set_cons_zero, List.set_cons_succ])
         refine wpAnyH_done ?hrzr02a ?hqzr02a _
         case hrzr02a => kernel_rfl
         refine NoPanic.normal ?_
         go_wp2
         go_roundw
         case rel => exact ⟨3, l0, l1, l2 + tmP a0 b2, l3, rfl, .inr <| .inr <| .inr <| .inl ⟨rfl, by have := E.out; omega⟩, hr, h4, h5, h8, hbe⟩
         case measure => simp [intOf]
      case hcx02_10 =>
       go_simp
       refine (HT02.out _).mono ?_
       rintro e w3 ⟨rfl, bb⟩
       go_wp2_with fail
       replace hr := hr.below bb hr.lt
       replace h4 := h4.below bb h4.lt
       replace h5 := h5.below bb h5.lt
       replace h8 := h8.below bb h8.lt
       replace hbe := hbe.on bb
       clear bb
       refine hK.out _ _ ⟨h4.cell 0, h5.cell 2⟩ (fun hH => ?_)
       clear hK K
       try (simp only [Act.put, List.setIfInBounds_toArray, List.set_cons_zero, List.set_cons_succ])
       refine tk 11 hH ?_
       refine rd1 2 (fun K hK => ?hcx02b_2)
       case hcx02b_2 =>
        have c0 : w3.cell? ⟨o, 2, none⟩ = some (.int .i64 l2) := h8.cell 2
        go_simp
        try go_wp2_with fail
        clear c0
        refine hK.out _ _ ⟨h4.cell 0, h5.cell 2⟩ (fun hH => ?_)
        clear hK K
        try (simp only [Act.put, List.setIfInBounds_toArray, List.set_cons_zero, List.set_cons_succ])
        refine tk 12 hH ?_
        refine tk 13 hH ?_
        refine rd1 14 (fun K hK => ?hcx02bs_14)
        case hcx02bs_14 =>
         have c0 : w3.cell? ⟨o, 2, none⟩ = some (.int .i64 l2) := h8.cell 2
         have z0 := h8.frozen 2
         go_simp
         try go_wp2_with fail
         clear c0 z0
         have lr := hr.lt
         replace hr := hr.fr o 2 (by omega) (.int .i64 (l2 + tmP a0 b2))
         replace h4 := h4.fr o 2 (by omega) (.int .i64 (l2 + tmP a0 b2))
         replace h5 := h5.fr o 2 (by omega) (.int .i64 (l2 + tmP a0 b2))
         replace h8 : Blk (w3.setCell ⟨o, 2, none⟩ (.int .i64 (l2 + tmP a0 b2))) o 129 #[.int .i64 (l0), .int .i64 (l1), .int .i64 (l2 + tmP a0 b2), .int .i64 (l3)] := by have := h8.set_ 2 (.int .i64 (l2 + tmP a0 b2)); simpa using this
         replace hbe := hbe.sc o 2 (by omega) (.int .i64 (l2 + tmP a0 b2))
         generalize w3.setCell ⟨o, 2, none⟩ (.int .i64 (l2 + tmP a0 b2)) = wz at *
         refine hK.out _ _ ⟨h4.cell 0, h5.cell 2⟩ (fun hH => ?_)
         clear hK K
         try (simp only [Act.put, List.setIfInBounds_toArray, List.set_cons_zero, List.set_cons_succ])
         refine wpAnyH_done ?hrzr02b ?hqzr02b _
         case hrzr02b => kernel_rfl
         refine NoPanic.normal ?_
         go_wp2
         go_roundw
         case rel => exact ⟨3, l0, l1, l2 + tmP a0 b2, l3, rfl, .inr <| .inr <| .inr <| .inl ⟨rfl, by have := E.out; omega⟩, hr, h4, h5, h8, hbe⟩
         case measure => simp [intOf]
     ·have E := hid (show l0 = 0 + tmP a0 b0 ∧ l1 = 0 + tmP a0 b1 ∧ l2 = 0 + tmP a0 b2 ∧ l3 = 0 from ⟨e0, e1, e2, e3⟩)
      have hbd : (-4294967297 ≤ tmP a0 b3 ∧ tmP a0 b3 ≤ 4294967297) ∧ -17179869188 ≤ l3 ∧ l3 ≤ 17179869188 := by
       have := HB.out
       unfold MulB at this
       omega
      obtain ⟨⟨m1, m2⟩, m3, m4⟩ := hbd
      clear e0 e1 e2 e3 hcut
      have u1 : IntKind.i64.wrap (tmP a0 b3) = tmP a0 b3 := IntWalk.i64_in _ (by omega)
      have u2 : IntKind.i64.wrap (l3 + tmP a0 b3) = l3 + tmP a0 b3 := IntWalk.i64_in _ (by omega)
      go_wp2_with fail
      refine (HPL.out 0 3 3 (1) _ (by simp)).mono ?_
      rintro e w1 ⟨rfl, bb⟩
      replace hr := hr.below bb hr.lt
      replace h4 := h4.below bb h4.lt
      replace h5 := h5.below bb h5.lt
      replace h8 := h8.below bb h8.lt
      replace hbe := hbe.on bb
      clear bb
      go_wp2_with fail
      refine wp_region_noPanic ?_
      refine wp_region_held_drew (S := fun w' : World => w'.cell? ⟨g, 0, none⟩ = some (.int .i32 a0) ∧ w'.cell? ⟨h, 3, none⟩ = some (.int .i32 b3)) (by kernel_rfl) ⟨h4.cell 0, h5.cell 3⟩ (fun hH => ?_)
      refine (show wpAnyH _ _ _ _ _ 15 _ _ _ from ?_)
      try (simp only [Act.put, List.setIfInBounds_toArray, List.set_cons_zero, List.set_cons_succ])
      replace hr := hr.drew
      replace h4 := h4.drew
      replace h5 := h5.drew
      replace h8 := h8.drew
      replace hbe := hbe.drew
      generalize w1.drew = w2 at *
      refine tk 0 hH ?_
      refine tk 1 hH ?_
      refine tk 3 hH ?_
      refine tk 4 hH ?_
      refine tk 5 hH ?_
      refine tk 6 hH ?_
      refine tk 7 hH ?_
      refine tk 8 hH ?_
      refine tk 9 hH ?_
      refine rd2 2 10 (fun K hK => ?hcx03_2) (fun K hK => ?hcx03_10)
      case hcx03_2 =>
       have c0 : w2.cell? ⟨o, 3, none⟩ = some (.int .i64 l3) := h8.cell 3
       go_simp
       try go_wp2_with fail
       clear c0
       refine hK.out _ _ ⟨h4.cell 0, h5.cell 3⟩ (fun hH => ?_)
       clear hK K
       try (simp only [Act.put, List.setIfInBounds_toArray, List.set_cons_zero, List.set_cons_succ])
       refine rd1 10 (fun K hK => ?hcx03a_10)
       case hcx03a_10 =>
        go_simp
        refine (HT03.out _).mono ?_
        rintro e w3 ⟨rfl, bb⟩
        go_wp2_with fail
        replace hr := hr.below bb hr.lt
        replace h4 := h4.below bb h4.lt
        replace h5 := h5.below bb h5.lt
        replace h8 := h8.below bb h8.lt
        replace hbe := hbe.on bb
        clear bb
        refine hK.out _ _ ⟨h4.cell 0, h5.cell 3⟩ (fun hH => ?_)
        clear hK K
        try (simp only [Act.put, List.setIfInBounds_toArray, List.set_cons_zero, List.set_cons_succ])
        refine tk 11 hH ?_
        refine tk 12 hH ?_
        refine tk 13 hH ?_
        refine rd1 14 (fun K hK => ?hcx03as_14)
        case hcx03as_14 =>
         have c0 : w3.cell? ⟨o, 3, none⟩ = some (.int .i64 l3) := h8.cell 3
         have z0 := h8.frozen 3
         go_simp
         try go_wp2_with fail
         clear c0 z0
         have lr := hr.lt
         replace hr := hr.fr o 3 (by omega) (.int .i64 (l3 + tmP a0 b3))
         replace h4 := h4.fr o 3 (by omega) (.int .i64 (l3 + tmP a0 b3))
         replace h5 := h5.fr o 3 (by omega) (.int .i64 (l3 + tmP a0 b3))
         replace h8 : Blk (w3.setCell ⟨o, 3, none⟩ (.int .i64 (l3 + tmP a0 b3))) o 129 #[.int .i64 (l0), .int .i64 (l1), .int .i64 (l2), .int .i64 (l3 + tmP a0 b3)] := by have := h8.set_ 3 (.int .i64 (l3 + tmP a0 b3)); simpa using this
         replace hbe := hbe.sc o 3 (by omega) (.int .i64 (l3 + tmP a0 b3))
         generalize w3.setCell ⟨o, 3, none⟩ (.int .i64 (l3 + tmP a0 b3)) = wz at *
         refine hK.out _ _ ⟨h4.cell 0, h5.cell 3⟩ (fun hH => ?_)
         clear hK K
         try (simp only [Act.put, List.setIfInBounds_toArray, List.set_cons_zero, List.set_cons_succ])
         refine wpAnyH_done ?hrzr03a ?hqzr03a _
         case hrzr03a => kernel_rfl
         refine NoPanic.normal ?_
         go_wp2
         go_roundw
         case rel => exact ⟨4, l0, l1, l2, l3 + tmP a0 b3, rfl, .inr <| .inr <| .inr <| .inr <| ⟨rfl, by have := E.out; omega⟩, hr, h4, h5, h8, hbe⟩
         case measure => simp [intOf]
      case hcx03_10 =>
       go_simp
       refine (HT03.out _).mono ?_
       rintro e w3 ⟨rfl, bb⟩
       go_wp2_with fail
       replace hr := hr.below bb hr.lt
       replace h4 := h4.below bb h4.lt
       replace h5 := h5.below bb h5.lt
       replace h8 := h8.below bb h8.lt
       replace hbe := hbe.on bb
       clear bb
       refine hK.out _ _ ⟨h4.cell 0, h5.cell 3⟩ (fun hH => ?_)
       clear hK K
       try (simp only [Act.put, List.setIfInBounds_toArray, List.set_cons_zero, List.set_cons_succ])
       refine tk 11 hH ?_
       refine rd1 2 (fun K hK => ?hcx03b_2)
       case hcx03b_2 =>
        have c0 : w3.cell? ⟨o, 3, none⟩ = some (.int .i64 l3) := h8.cell 3
        go_simp
        try go_wp2_with fail
        clear c0
        refine hK.out _ _ ⟨h4.cell 0, h5.cell 3⟩ (fun hH => ?_)
        clear hK K
        try (simp only [Act.put, List.setIfInBounds_toArray, List.set_cons_zero, List.set_cons_succ])
        refine tk 12 hH ?_
        refine tk 13 hH ?_
        refine rd1 14 (fun K hK => ?hcx03bs_14)
        case hcx03bs_14 =>
         have c0 : w3.cell? ⟨o, 3, none⟩ = some (.int .i64 l3) := h8.cell 3
         have z0 := h8.frozen 3
         go_simp
         try go_wp2_with fail
         clear c0 z0
         have lr := hr.lt
         replace hr := hr.fr o 3 (by omega) (.int .i64 (l3 + tmP a0 b3))
         replace h4 := h4.fr o 3 (by omega) (.int .i64 (l3 + tmP a0 b3))
         replace h5 := h5.fr o 3 (by omega) (.int .i64 (l3 + tmP a0 b3))
         replace h8 : Blk (w3.setCell ⟨o, 3, none⟩ (.int .i64 (l3 + tmP a0 b3))) o 129 #[.int .i64 (l0), .int .i64 (l1), .int .i64 (l2), .int .i64 (l3 + tmP a0 b3)] := by have := h8.set_ 3 (.int .i64 (l3 + tmP a0 b3)); simpa using this
         replace hbe := hbe.sc o 3 (by omega) (.int .i64 (l3 + tmP a0 b3))
         generalize w3.setCell ⟨o, 3, none⟩ (.int .i64 (l3 + tmP a0 b3)) = wz at *
         refine hK.out _ _ ⟨h4.cell 0, h5.cell 3⟩ (fun hH => ?_)
         clear hK K
         try (simp only [Act.put, List.setIfInBounds_toArray, List.set_cons_zero, List.set_cons_succ])
         refine wpAnyH_done ?hrzr03b ?hqzr03b _
         case hrzr03b => kernel_rfl
         refine NoPanic.normal ?_
         go_wp2
         go_roundw
         case rel => exact ⟨4, l0, l1, l2, l3 + tmP a0 b3, rfl, .inr <| .inr <| .inr <| .inr <| ⟨rfl, by have := E.out; omega⟩, hr, h4, h5, h8, hbe⟩
         case measure => simp [intOf]
     ·have E := hid (show l0 = 0 + tmP a0 b0 ∧ l1 = 0 + tmP a0 b1 ∧ l2 = 0 + tmP a0 b2 ∧ l3 = 0 + tmP a0 b3 from ⟨e0, e1, e2, e3⟩)
      clear e0 e1 e2 e3 hcut
      go_wp2
      go_roundw
      case rel => exact ⟨1, l0, l1, l2, l3, rfl, .inr <| .inl ⟨rfl, E.out⟩, hr, h4, h5, h8, hbe⟩
      case measure => simp [intOf]
   ·have E := hid (show l0 = 0 + tmP a0 b0 ∧ l1 = 0 + tmP a0 b1 ∧ l2 = 0 + tmP a0 b2 ∧ l3 = 0 + tmP a0 b3 from ⟨e0, e1, e2, e3⟩)
    clear e0 e1 e2 e3 hcut
    go_wp2_with fail
    go_loopw [20] (fun j wr => ∃ J l0 l1 l2 l3 : Int, j = .int .i64 J ∧ Hid (MulI1 a0 a1 a2 a3 b0 b1 b2 b3 J l0 l1 l2 l3) ∧ Blk wr (w.heap.size + 1 + 1) 23 #[.int .i32 0, .int .i32 0, .int .i32 0, .int .i32 0] ∧ Blk wr g 94 #[.int .i32 a0, .int .i32 a1, .int .i32 a2, .int .i32 a3] ∧ Blk wr h 94 #[.int .i32 b0, .int .i32 b1, .int .i32 b2, .int .i32 b3] ∧ Blk wr o 129 #[.int .i64 l0, .int .i64 l1, .int .i64 l2, .int .i64 l3] ∧ Below w.heap.size w wr) (fun j _ => 4 - (intOf j).toNat)
    case atStart => exact ⟨0, l0, l1, l2, l3, rfl, .inl ⟨rfl, E.out⟩, hr, h4, h5, h8, hbe⟩
    case round =>
     clear hr h4 h5 h8 hbe E
     obtain ⟨J, l0, l1, l2, l3, rfl, hcut, hr, h4, h5, h8, hbe⟩ := hrel
     rcases hcut.out with ⟨rfl, e0, e1, e2, e3⟩ | ⟨rfl, e0, e1, e2, e3⟩ | ⟨rfl, e0, e1, e2, e3⟩ | ⟨rfl, e0, e1, e2, e3⟩ | ⟨rfl, e0, e1, e2, e3⟩
     ·have E := hid (show l0 = 0 + tmP a0 b0 ∧ l1 = 0 + tmP a0 b1 ∧ l2 = 0 + tmP a0 b2 ∧ l3 = 0 + tmP a0 b3 from ⟨e0, e1, e2, e3⟩)
      have hbd : (-4294967297 ≤ tmP a1 b0 ∧ tmP a1 b0 ≤ 4294967297) ∧ -17179869188 ≤ l1 ∧ l1 ≤ 17179869188 := by
       have := HB.out
       unfold MulB at this
       omega
      obtain ⟨⟨m1, m2⟩, m3, m4⟩ := hbd
      clear e0 e1 e2 e3 hcut
      have u1 : IntKind.i64.wrap (tmP a1 b0) = tmP a1 b0 := IntWalk.i64_in _ (by omega)
      have u2 : IntKind.i64.wrap (l1 + tmP a1 b0) = l1 + tmP a1 b0 := IntWalk.i64_in _ (by omega)
      go_wp2_with fail
      refine (HPL.out 1 0 1 (1) _ (by simp)).mono ?_
      rintro e w1 ⟨rfl, bb⟩
      replace hr := hr.below bb hr.lt
      replace h4 := h4.below bb h4.lt
      replace h5 := h5.below bb h5.lt
      replace h8 := h8.below bb h8.lt
      replace hbe := hbe.on bb
      clear bb
      go_wp2_with fail
      refine wp_region_noPanic ?_
      refine wp_region_held_drew (S := fun w' : World => w'.cell? ⟨g, 1, none⟩ = some (.int .i32 a1) ∧ w'.cell? ⟨h, 0, none⟩ = some (.int .i32 b0)) (by kernel_rfl) ⟨h4.cell 1, h5.cell 0⟩ (fun hH => ?_)
      refine (show wpAnyH _ _ _ _ _ 15 _ _ _ from ?_)
      try (simp only [Act.put, List.setIfInBounds_toArray, List.set_cons_zero, List.set_cons_succ])
      replace hr := hr.drew
      replace h4 := h4.drew
      replace h5 := h5.drew
      replace h8 := h8.drew
      replace hbe := hbe.drew
      generalize w1.drew = w2 at *
      refine tk 0 hH ?_
      refine tk 1 hH ?_
      refine tk 3 hH ?_
      refine tk 4 hH ?_
      refine tk 5 hH ?_
      refine tk 6 hH ?_
      refine tk 7 hH ?_
      refine tk 8 hH ?_
      refine tk 9 hH ?_
      refine rd2 2 10 (fun K hK => ?hcx10_2) (fun K hK => ?hcx10_10)
      case hcx10_2 =>
       have c0 : w2.cell? ⟨o, 1, none⟩ = some (.int .i64 l1) := h8.cell 1
       go_simp
       try go_wp2_with fail
       clear c0
       refine hK.out _ _ ⟨h4.cell 1, h5.cell 0⟩ (fun hH => ?_)
       clear hK K
       try (simp only [Act.put, List.setIfInBounds_toArray, List.set_cons_zero, List.set_cons_succ])
       refine rd1 10 (fun K hK => ?hcx10a_10)
       case hcx10a_10 =>
        go_simp
        refine (HT10.out _).mono ?_
        rintro e w3 ⟨rfl, bb⟩
        go_wp2_with fail
        replace hr := hr.below bb hr.lt
        replace h4 := h4.below bb h4.lt
        replace h5 := h5.below bb h5.lt
        replace h8 := h8.below bb h8.lt
        replace hbe := hbe.on bb
        clear bb
        refine hK.out _ _ ⟨h4.cell 1, h5.cell 0⟩ (fun hH => ?_)
        clear hK K
        try (simp only [Act.put, List.setIfInBounds_toArray, List.set_cons_zero, List.set_cons_succ])
        refine tk 11 hH ?_
        refine tk 12 hH ?_
        refine tk 13 hH ?_
        refine rd1 14 (fun K hK => ?hcx10as_14)
        case hcx10as_14 =>
         have c0 : w3.cell? ⟨o, 1, none⟩ = some (.int .i64 l1) := h8.cell 1
         have z0 := h8.frozen 1
         go_simp
         try go_wp2_with fail
         clear c0 z0
         have lr := hr.lt
         replace hr := hr.fr o 1 (by omega) (.int .i64 (l1 + tmP a1 b0))
         replace h4 := h4.fr o 1 (by omega) (.int .i64 (l1 + tmP a1 b0))
         replace h5 := h5.fr o 1 (by omega) (.int .i64 (l1 + tmP a1 b0))
         replace h8 : Blk (w3.setCell ⟨o, 1, none⟩ (.int .i64 (l1 + tmP a1 b0))) o 129 #[.int .i64 (l0), .int .i64 (l1 + tmP a1 b0), .int .i64 (l2), .int .i64 (l3)] := by have := h8.set_ 1 (.int .i64 (l1 + tmP a1 b0)); simpa using this
         replace hbe := hbe.sc o 1 (by omega) (.int .i64 (l1 + tmP a1 b0))
         generalize w3.setCell ⟨o, 1, none⟩ (.int .i64 (l1 + tmP a1 b0)) = wz at *
         refine hK.out _ _ ⟨h4.cell 1, h5.cell 0⟩ (fun hH => ?_)
         clear hK K
         try (simp only [Act.put, List.setIfInBounds_toArray, List.set_cons_zero, List.set_cons_succ])
         refine wpAnyH_done ?hrzr10a ?hqzr10a _
         case hrzr10a => kernel_rfl
         refine NoPanic.normal ?_
         go_wp2
         go_roundw
         case rel => exact ⟨1, l0, l1 + tmP a1 b0, l2, l3, rfl, .inr <| .inl ⟨rfl, by have := E.out; omega⟩, hr, h4, h5, h8, hbe⟩
         case measure => simp [intOf]
      case hcx10_10 =>
       go_simp
       refine (HT10.out _).mono ?_
       rintro e w3 ⟨rfl, bb⟩
       go_wp2_with fail
       replace hr := hr.below bb hr.lt
       replace h4 := h4.below bb h4.lt
       replace h5 := h5.below bb h5.lt
       replace h8 := h8.below bb h8.lt
       replace hbe := hbe.on bb
       clear bb
       refine hK.out _ _ ⟨h4.cell 1, h5.cell 0⟩ (fun hH => ?_)
       clear hK K
       try (simp only [Act.put, List.setIfInBounds_toArray, List.set_cons_zero, List.set_cons_succ])
       refine tk 11 hH ?_
       refine rd1 2 (fun K hK => ?hcx10b_2)
       case hcx10b_2 =>
        have c0 : w3.cell? ⟨o, 1, none⟩ = some (.int .i64 l1) := h8.cell 1
        go_simp
        try go_wp2_with fail
        clear c0
        refine hK.out _ _ ⟨h4.cell 1, h5.cell 0⟩ (fun hH => ?_)
        clear hK K
        try (simp only [Act.put, List.setIfInBounds_toArray, List.set_cons_zero, List.set_cons_succ])
        refine tk 12 hH ?_
        refine tk 13 hH ?_
        refine rd1 14 (fun K hK => ?hcx10bs_14)
        case hcx10bs_14 =>
         have c0 : w3.cell? ⟨o, 1, none⟩ = some (.int .i64 l1) := h8.cell 1
         have z0 := h8.frozen 1
         go_simp
         try go_wp2_with fail
         clear c0 z0
         have lr := hr.lt
         replace hr := hr.fr o 1 (by omega) (.int .i64 (l1 + tmP a1 b0))
         replace h4 := h4.fr o 1 (by omega) (.int .i64 (l1 + tmP a1 b0))
         replace h5 := h5.fr o 1 (by omega) (.int .i64 (l1 + tmP a1 b0))
         replace h8 : Blk (w3.setCell ⟨o, 1, none⟩ (.int .i64 (l1 + tmP a1 b0))) o 129 #[.int .i64 (l0), .int .i64 (l1 + tmP a1 b0), .int .i64 (l2), .int .i64 (l3)] := by have := h8.set_ 1 (.int .i64 (l1 + tmP a1 b0)); simpa using this
         replace hbe := hbe.sc o 1 (by omega) (.int .i64 (l1 + tmP a1 b0))
         generalize w3.setCell ⟨o, 1, none⟩ (.int .i64 (l1 + tmP a1 b0)) = wz at *
         refine hK.out _ _ ⟨h4.cell 1, h5.cell 0⟩ (fun hH => ?_)
         clear hK K
         try (simp only [Act.put, List.setIfInBounds_toArray, List.set_cons_zero, List.set_cons_succ])
         refine wpAnyH_done ?hrzr10b ?hqzr10b _
         case hrzr10b => kernel_rfl
         refine NoPanic.normal ?_
         go_wp2
         go_roundw
         case rel => exact ⟨1, l0, l1 + tmP a1 b0, l2, l3, rfl, .inr <| .inl ⟨rfl, by have := E.out; omega⟩, hr, h4, h5, h8, hbe⟩
         case measure => simp [intOf]
     ·have E := hid (show l0 = 0 + tmP a0 b0 ∧ l1 = 0 + tmP a0 b1 + tmP a1 b0 ∧ l2 = 0 + tmP a0 b2 ∧ l3 = 0 + tmP a0 b3 from ⟨e0, e1, e2, e3⟩)
      have hbd : (-4294967297 ≤ tmP a1 b1 ∧ tmP a1 b1 ≤ 4294967297) ∧ -17179869188 ≤ l0 ∧ l0 ≤ 17179869188 := by
       have := HB.out
       unfold MulB at this
       omega
      obtain ⟨⟨m1, m2⟩, m3, m4⟩ := hbd
      clear e0 e1 e2 e3 hcut
      have u1 : IntKind.i64.wrap (-tmP a1 b1) = -tmP a1 b1 := IntWalk.i64_in _ (by omega)
      have u2 : IntKind.i64.wrap (l0 + -tmP a1 b1) = l0 + -tmP a1 b1 := IntWalk.i64_in _ (by omega)
      go_wp2_with fail
      refine (HPL.out 1 1 0 (-1) _ (by simp)).mono ?_
      rintro e w1 ⟨rfl, bb⟩
      replace hr := hr.below bb hr.lt
      replace h4 := h4.below bb h4.lt
      replace h5 := h5.below bb h5.lt
      replace h8 := h8.below bb h8.lt
      replace hbe := hbe.on bb
      clear bb
      go_wp2_with fail
      refine wp_region_noPanic ?_
      refine wp_region_held_drew (S := fun w' : World => w'.cell? ⟨g, 1, none⟩ = some (.int .i32 a1) ∧ w'.cell? ⟨h, 1, none⟩ = some (.int .i32 b1)) (by kernel_rfl) ⟨h4.cell 1, h5.cell 1⟩ (fun hH => ?_)
      refine (show wpAnyH _ _ _ _ _ 15 _ _ _ from ?_)
      try (simp only [Act.put, List.setIfInBounds_toArray, List.set_cons_zero, List.set_cons_succ])
      replace hr := hr.drew
      replace h4 := h4.drew
      replace h5 := h5.drew
      replace h8 := h8.drew
      replace hbe := hbe.drew
      generalize w1.drew = w2 at *
      refine tk 0 hH ?_
      refine tk 1 hH ?_
      refine tk 3 hH ?_
      refine tk 4 hH ?_
      refine tk 5 hH ?_
      refine tk 6 hH ?_
      refine tk 7 hH ?_
      refine tk 8 hH ?_
      refine tk 9 hH ?_
      refine rd2 2 10 (fun K hK => ?hcx11_2) (fun K hK => ?hcx11_10)
      case hcx11_2 =>
       have c0 : w2.cell? ⟨o, 0, none⟩ = some (.int .i64 l0) := h8.cell 0
       go_simp
       try go_wp2_with fail
       clear c0
       refine hK.out _ _ ⟨h4.cell 1, h5.cell 1⟩ (fun hH => ?_)
       clear hK K
       try (simp only [Act.put, List.setIfInBounds_toArray, List.set_cons_zero, List.set_cons_succ])
       refine rd1 10 (fun K hK => ?hcx11a_10)
       case hcx11a_10 =>
        go_simp
        refine (HT11.out _).mono ?_
        rintro e w3 ⟨rfl, bb⟩
        go_wp2_with fail
        replace hr := hr.below bb hr.lt
        replace h4 := h4.below bb h4.lt
        replace h5 := h5.below bb h5.lt
        replace h8 := h8.below bb h8.lt
        replace hbe := hbe.on bb
        clear bb
        refine hK.out _ _ ⟨h4.cell 1, h5.cell 1⟩ (fun hH => ?_)
        clear hK K
        try (simp only [Act.put, List.setIfInBounds_toArray, List.set_cons_zero, List.set_cons_succ])
        refine tk 11 hH ?_
        refine tk 12 hH ?_
        refine tk 13 hH ?_
        refine rd1 14 (fun K hK => ?hcx11as_14)
        case hcx11as_14 =>
         have c0 : w3.cell? ⟨o, 0, none⟩ = some (.int .i64 l0) := h8.cell 0
         have z0 := h8.frozen 0
         go_simp
         try go_wp2_with fail
         clear c0 z0
         have lr := hr.lt
         replace hr := hr.fr o 0 (by omega) (.int .i64 (l0 + -tmP a1 b1))
         replace h4 := h4.fr o 0 (by omega) (.int .i64 (l0 + -tmP a1 b1))
         replace h5 := h5.fr o 0 (by omega) (.int .i64 (l0 + -tmP a1 b1))
         replace h8 : Blk (w3.setCell ⟨o, 0, none⟩ (.int .i64 (l0 + -tmP a1 b1))) o 129 #[.int .i64 (l0 + -tmP a1 b1), .int .i64 (l1), .int .i64 (l2), .int .i64 (l3)] := by have := h8.set_ 0 (.int .i64 (l0 + -tmP a1 b1)); simpa using this
         replace hbe := hbe.sc o 0 (by omega) (.int .i64 (l0 + -tmP a1 b1))
         generalize w3.setCell ⟨o, 0, none⟩ (.int .i64 (l0 + -tmP a1 b1)) = wz at *
         refine hK.out _ _ ⟨h4.cell 1, h5.cell 1⟩ (fun hH => ?_)
         clear hK K
         try (simp only [Act.put, List.setIfInBounds_toArray, List.set_cons_zero, List.set_cons_succ])
         refine wpAnyH_done ?hrzr11a ?hqzr11a _
         case hrzr11a => kernel_rfl
         refine NoPanic.normal ?_
         go_wp2
         go_roundw
         case rel => exact ⟨2, l0 + -tmP a1 b1, l1, l2, l3, rfl, .inr <| .inr <| .inl ⟨rfl, by have := E.out; omega⟩, hr, h4, h5, h8, hbe⟩
         case measure => simp [intOf]
      case hcx11_10 =>
       go_simp
       refine (HT11.out _).mono ?_
       rintro e w3 ⟨rfl, bb⟩
       go_wp2_with fail
       replace hr := hr.below bb hr.lt
       replace h4 := h4.below bb h4.lt
       replace h5 := h5.below bb h5.lt
       replace h8 := h8.below bb h8.lt
       replace hbe := hbe.on bb
       clear bb
       refine hK.out _ _ ⟨h4.cell 1, h5.cell 1⟩ (fun hH => ?_)
       clear hK K
       try (simp only [Act.put, List.setIfInBounds_toArray, List.set_cons_zero, List.set_cons_succ])
       refine tk 11 hH ?_
       refine rd1 2 (fun K hK => ?hcx11b_2)
       case hcx11b_2 =>
        have c0 : w3.cell? ⟨o, 0, none⟩ = some (.int .i64 l0) := h8.cell 0
        go_simp
        try go_wp2_with fail
        clear c0
        refine hK.out _ _ ⟨h4.cell 1, h5.cell 1⟩ (fun hH => ?_)
        clear hK K
        try (simp only [Act.put, List.setIfInBounds_toArray, List.set_cons_zero, List.set_cons_succ])
        refine tk 12 hH ?_
        refine tk 13 hH ?_
        refine rd1 14 (fun K hK => ?hcx11bs_14)
        case hcx11bs_14 =>
         have c0 : w3.cell? ⟨o, 0, none⟩ = some (.int .i64 l0) := h8.cell 0
         have z0 := h8.frozen 0
         go_simp
         try go_wp2_with fail
         clear c0 z0
         have lr := hr.lt
         replace hr := hr.fr o 0 (by omega) (.int .i64 (l0 + -tmP a1 b1))
         replace h4 := h4.fr o 0 (by omega) (.int .i64 (l0 + -tmP a1 b1))
         replace h5 := h5.fr o 0 (by omega) (.int .i64 (l0 + -tmP a1 b1))
         replace h8 : Blk (w3.setCell ⟨o, 0, none⟩ (.int .i64 (l0 + -tmP a1 b1))) o 129 #[.int .i64 (l0 + -tmP a1 b1), .int .i64 (l1), .int .i64 (l2), .int .i64 (l3)] := by have := h8.set_ 0 (.int .i64 (l0 + -tmP a1 b1)); simpa using this
         replace hbe := hbe.sc o 0 (by omega) (.int .i64 (l0 + -tmP a1 b1))
         generalize w3.setCell ⟨o, 0, none⟩ (.int .i64 (l0 + -tmP a1 b1)) = wz at *
         refine hK.out _ _ ⟨h4.cell 1, h5.cell 1⟩ (fun hH => ?_)
         clear hK K
         try (simp only [Act.put, List.setIfInBounds_toArray, List.set_cons_zero, List.set_cons_succ])
         refine wpAnyH_done ?hrzr11b ?hqzr11b _
         case hrzr11b => kernel_rfl
         refine NoPanic.normal ?_
         go_wp2
         go_roundw
         case rel => exact ⟨2, l0 + -tmP a1 b1, l1, l2, l3, rfl, .inr <| .inr <| .inl ⟨rfl, by have := E.out; omega⟩, hr, h4, h5, h8, hbe⟩
         case measure => simp [intOf]
     ·have E := hid (show l0 = 0 + tmP a0 b0 - tmP a1 b1 ∧ l1 = 0 + tmP a0 b1 + tmP a1 b0 ∧ l2 = 0 + tmP a0 b2 ∧ l3 = 0 + tmP a0 b3 from ⟨e0, e1, e2, e3⟩)
      have hbd : (-4294967297 ≤ tmP a1 b2 ∧ tmP a1 b2 ≤ 4294967297) ∧ -17179869188 ≤ l3 ∧ l3 ≤ 17179869188 := by
       have := HB.out
       unfold MulB at this
       omega
      obtain ⟨⟨m1, m2⟩, m3, m4⟩ := hbd
      clear e0 e1 e2 e3 hcut
      have u1 : IntKind.i64.wrap (tmP a1 b2) = tmP a1 b2 := IntWalk.i64_in _ (by omega)
      have u2 : IntKind.i64.wrap (l3 + tmP a1 b2) = l3 + tmP a1 b2 := IntWalk.i64_in _ (by omega)
      go_wp2_with fail
      refine (HPL.out 1 2 3 (1) _ (by simp)).mono ?_
      rintro e w1 ⟨rfl, bb⟩
      replace hr := hr.below bb hr.lt
      replace h4 := h4.below bb h4.lt
      replace h5 := h5.below bb h5.lt
      replace h8 := h8.below bb h8.lt
      replace hbe := hbe.on bb
      clear bb
      go_wp2_with fail
      refine wp_region_noPanic ?_
      refine wp_region_held_drew (S := fun w' : World => w'.cell? ⟨g, 1, none⟩ = some (.int .i32 a1) ∧ w'.cell? ⟨h, 2, none⟩ = some (.int .i32 b2)) (by kernel_rfl) ⟨h4.cell 1, h5.cell 2⟩ (fun hH => ?_)
      refine (show wpAnyH _ _ _ _ _ 15 _ _ _ from ?_)
      try (simp only [Act.put, List.setIfInBounds_toArray, List.set_cons_zero, List.set_cons_succ])
      replace hr := hr.drew
      replace h4 := h4.drew
      replace h5 := h5.drew
      replace h8 := h8.drew
      replace hbe := hbe.drew
      generalize w1.drew = w2 at *
      refine tk 0 hH ?_
      refine tk 1 hH ?_
      refine tk 3 hH ?_
      refine tk 4 hH ?_
      refine tk 5 hH ?_
      refine tk 6 hH ?_
      refine tk 7 hH ?_
      refine tk 8 hH ?_
      refine tk 9 hH ?_
      refine rd2 2 10 (fun K hK => ?hcx12_2) (fun K hK => ?hcx12_10)
      case hcx12_2 =>
       have c0 : w2.cell? ⟨o, 3, none⟩ = some (.int .i64 l3) := h8.cell 3
       go_simp
       try go_wp2_with fail
       clear c0
       refine hK.out _ _ ⟨h4.cell 1, h5.cell 2⟩ (fun hH => ?_)
       clear hK K
       try (simp only [Act.put, List.setIfInBounds_toArray, List.set_cons_zero, List.set_cons_succ])
       refine rd1 10 (fun K hK => ?hcx12a_10)
       case hcx12a_10 =>
        go_simp
        refine (HT12.out _).mono ?_
        rintro e w3 ⟨rfl, bb⟩
        go_wp2_with fail
        replace hr := hr.below bb hr.lt
        replace h4 := h4.below bb h4.lt
        replace h5 := h5.below bb h5.lt
        replace h8 := h8.below bb h8.lt
        replace hbe := hbe.on bb
        clear bb
        refine hK.out _ _ ⟨h4.cell 1, h5.cell 2⟩ (fun hH => ?_)
        clear hK K
        try (simp only [Act.put, List.setIfInBounds_toArray, List.set_cons_zero, List.set_cons_succ])
        refine tk 11 hH ?_
        refine tk 12 hH ?_
        refine tk 13 hH ?_
        refine rd1 14 (fun K hK => ?hcx12as_14)
        case hcx12as_14 =>
         have c0 : w3.cell? ⟨o, 3, none⟩ = some (.int .i64 l3) := h8.cell 3
         have z0 := h8.frozen 3
         go_simp
         try go_wp2_with fail
         clear c0 z0
         have lr := hr.lt
         replace hr := hr.fr o 3 (by omega) (.int .i64 (l3 + tmP a1 b2))
         replace h4 := h4.fr o 3 (by omega) (.int .i64 (l3 + tmP a1 b2))
         replace h5 := h5.fr o 3 (by omega) (.int .i64 (l3 + tmP a1 b2))
         replace h8 : Blk (w3.setCell ⟨o, 3, none⟩ (.int .i64 (l3 + tmP a1 b2))) o 129 #[.int .i64 (l0), .int .i64 (l1), .int .i64 (l2), .int .i64 (l3 + tmP a1 b2)] := by have := h8.set_ 3 (.int .i64 (l3 + tmP a1 b2)); simpa using this
         replace hbe := hbe.sc o 3 (by omega) (.int .i64 (l3 + tmP a1 b2))
         generalize w3.setCell ⟨o, 3, none⟩ (.int .i64 (l3 + tmP a1 b2)) = wz at *
         refine hK.out _ _ ⟨h4.cell 1, h5.cell 2⟩ (fun hH => ?_)
         clear hK K
         try (simp only [Act.put, List.setIfInBounds_toArray, List.set_cons_zero, List.set_cons_succ])
         refine wpAnyH_done ?hrzr12a ?hqzr12a _
         case hrzr12a => kernel_rfl
         refine NoPanic.normal ?_
         go_wp2
         go_roundw
         case rel => exact ⟨3, l0, l1, l2, l3 + tmP a1 b2, rfl, .inr <| .inr <| .inr <| .inl ⟨rfl, by have := E.out; omega⟩, hr, h4, h5, h8, hbe⟩
         case measure => simp [intOf]
      case hcx12_10 =>
       go_simp
       refine (HT12.out _).mono ?_
       rintro e w3 ⟨rfl, bb⟩
       go_wp2_with fail
       replace hr := hr.below bb hr.lt
       replace h4 := h4.below bb h4.lt
       replace h5 := h5.below bb h5.lt
       replace h8 := h8.below bb h8.lt
       replace hbe := hbe.on bb
       clear bb
       refine hK.out _ _ ⟨h4.cell 1, h5.cell 2⟩ (fun hH => ?_)
       clear hK K
       try (simp only [Act.put, List.setIfInBounds_toArray, List.set_cons_zero, List.set_cons_succ])
       refine tk 11 hH ?_
       refine rd1 2 (fun K hK => ?hcx12b_2)
       case hcx12b_2 =>
        have c0 : w3.cell? ⟨o, 3, none⟩ = some (.int .i64 l3) := h8.cell 3
        go_simp
        try go_wp2_with fail
        clear c0
        refine hK.out _ _ ⟨h4.cell 1, h5.cell 2⟩ (fun hH => ?_)
        clear hK K
        try (simp only [Act.put, List.setIfInBounds_toArray, List.set_cons_zero, List.set_cons_succ])
        refine tk 12 hH ?_
        refine tk 13 hH ?_
        refine rd1 14 (fun K hK => ?hcx12bs_14)
        case hcx12bs_14 =>
         have c0 : w3.cell? ⟨o, 3, none⟩ = some (.int .i64 l3) := h8.cell 3
         have z0 := h8.frozen 3
         go_simp
         try go_wp2_with fail
         clear c0 z0
         have lr := hr.lt
         replace hr := hr.fr o 3 (by omega) (.int .i64 (l3 + tmP a1 b2))
         replace h4 := h4.fr o 3 (by omega) (.int .i64 (l3 + tmP a1 b2))
         replace h5 := h5.fr o 3 (by omega) (.int .i64 (l3 + tmP a1 b2))
         replace h8 : Blk (w3.setCell ⟨o, 3, none⟩ (.int .i64 (l3 + tmP a1 b2))) o 129 #[.int .i64 (l0), .int .i64 (l1), .int .i64 (l2), .int .i64 (l3 + tmP a1 b2)] := by have := h8.set_ 3 (.int .i64 (l3 + tmP a1 b2)); simpa using this
         replace hbe := hbe.sc o 3 (by omega) (.int .i64 (l3 + tmP a1 b2))
         generalize w3.setCell ⟨o, 3, none⟩ (.int .i64 (l3 + tmP a1 b2)) = wz at *
         refine hK.out _ _ ⟨h4.cell 1, h5.cell 2⟩ (fun hH => ?_)
         clear hK K
         try (simp only [Act.put, List.setIfInBounds_toArray, List.set_cons_zero, List.set_cons_succ])
         refine wpAnyH_done ?hrzr12b ?hqzr12b _
         case hrzr12b => kernel_rfl
         refine NoPanic.normal ?_
         go_wp2
         go_roundw
         case rel => exact ⟨3, l0, l1, l2, l3 + tmP a1 b2, rfl, .inr <| .inr <| .inr <| .inl ⟨rfl, by have := E.out; omega⟩, hr, h4, h5, h8, hbe⟩
         case measure => simp [intOf]
     ·have E := hid (show l0 = 0 + tmP a0 b0 - tmP a1 b1 ∧ l1 = 0 + tmP a0 b1 + tmP a1 b0 ∧ l2 = 0 + tmP a0 b2 ∧ l3 = 0 + tmP a0 b3 + tmP a1 b2 from ⟨e0, e1, e2, e3⟩)
      have hbd : (-4294967297 ≤ tmP a1 b3 ∧ tmP a1 b3 ≤ 4294967297) ∧ -17179869188 ≤ l2 ∧ l2 ≤ 17179869188 := by
       have := HB.out
       unfold MulB at this
       omega
      obtain ⟨⟨m1, m2⟩, m3, m4⟩ := hbd
      clear e0 e1 e2 e3 hcut
      have u1 : IntKind.i64.wrap (-tmP a1 b3) = -tmP a1 b3 := IntWalk.i64_in _ (by omega)
      have u2 : IntKind.i64.wrap (l2 + -tmP a1 b3) = l2 + -tmP a1 b3 := IntWalk.i64_in _ (by omega)
      go_wp2_with fail
      refine (HPL.out 1 3 2 (-1) _ (by simp)).mono ?_
      rintro e w1 ⟨rfl, bb⟩
      replace hr := hr.below bb hr.lt
      replace h4 := h4.below bb h4.lt
      replace h5 := h5.below bb h5.lt
      replace h8 := h8.below bb h8.lt
      replace hbe := hbe.on bb
      clear bb
      go_wp2_with fail
      refine wp_region_noPanic ?_
      refine wp_region_held_drew (S := fun w' : World => w'.cell? ⟨g, 1, none⟩ = some (.int .i32 a1) ∧ w'.cell? ⟨h, 3, none⟩ = some (.int .i32 b3)) (by kernel_rfl) ⟨h4.cell 1, h5.cell 3⟩ (fun hH => ?_)
      refine (show wpAnyH _ _ _ _ _ 15 _ _ _ from ?_)
      try (simp only [Act.put, List.setIfInBounds_toArray, List.set_cons_zero, List.set_cons_succ])
      replace hr := hr.drew
      replace h4 := h4.drew
      replace h5 := h5.drew
      replace h8 := h8.drew
      replace hbe := hbe.drew
      generalize w1.drew = w2 at *
      refine tk 0 hH ?_
      refine tk 1 hH ?_
      refine tk 3 hH ?_
      refine tk 4 hH ?_
      refine tk 5 hH ?_
      refine tk 6 hH ?_
      refine tk 7 hH ?_
      refine tk 8 hH ?_
      refine tk 9 hH ?_
      refine rd2 2 10 (fun K hK => ?hcx13_2) (fun K hK => ?hcx13_10)
      case hcx13_2 =>
       have c0 : w2.cell? ⟨o, 2, none⟩ = some (.int .i64 l2) := h8.cell 2
       go_simp
       try go_wp2_with fail
       clear c0
       refine hK.out _ _ ⟨h4.cell 1, h5.cell 3⟩ (fun hH => ?_)
       clear hK K
       try (simp only [Act.put, List.setIfInBounds_toArray, List.set_cons_zero, List.set_cons_succ])
       refine rd1 10 (fun K hK => ?hcx13a_10)
       case hcx13a_10 =>
        go_simp
        refine (HT13.out _).mono ?_
        rintro e w3 ⟨rfl, bb⟩
        go_wp2_with fail
        replace hr := hr.below bb hr.lt
        replace h4 := h4.below bb h4.lt
        replace h5 := h5.below bb h5.lt
        replace h8 := h8.below bb h8.lt
        replace hbe := hbe.on bb
        clear bb
        refine hK.out _ _ ⟨h4.cell 1, h5.cell 3⟩ (fun hH => ?_)
        clear hK K
        try (simp only [Act.put, List.setIfInBounds_toArray, List.set_cons_zero, List.set_cons_succ])
        refine tk 11 hH ?_
        refine tk 12 hH ?_
        refine tk 13 hH ?_
        refine rd1 14 (fun K hK => ?hcx13as_14)
        case hcx13as_14 =>
         have c0 : w3.cell? ⟨o, 2, none⟩ = some (.int .i64 l2) := h8.cell 2
         have z0 := h8.frozen 2
         go_simp
         try go_wp2_with fail
         clear c0 z0
         have lr := hr.lt
         replace hr := hr.fr o 2 (by omega) (.int .i64 (l2 + -tmP a1 b3))
         replace h4 := h4.fr o 2 (by omega) (.int .i64 (l2 + -tmP a1 b3))
         replace h5 := h5.fr o 2 (by omega) (.int .i64 (l2 + -tmP a1 b3))
         replace h8 : Blk (w3.setCell ⟨o, 2, none⟩ (.int .i64 (l2 + -tmP a1 b3))) o 129 #[.int .i64 (l0), .int .i64 (l1), .int .i64 (l2 + -tmP a1 b3), .int .i64 (l3)] := by have := h8.set_ 2 (.int .i64 (l2 + -tmP a1 b3)); simpa using this
         replace hbe := hbe.sc o 2 (by omega) (.int .i64 (l2 + -tmP a1 b3))
         generalize w3.setCell ⟨o, 2, none⟩ (.int .i64 (l2 + -tmP a1 b3)) = wz at *
         refine hK.out _ _ ⟨h4.cell 1, h5.cell 3⟩ (fun hH => ?_)
         clear hK K
         try (simp only [Act.put, List.setIfInBounds_toArray, List.set_cons_zero, List.set_cons_succ])
         refine wpAnyH_done ?hrzr13a ?hqzr13a _
         case hrzr13a => kernel_rfl
         refine NoPanic.normal ?_
         go_wp2
         go_roundw
         case rel => exact ⟨4, l0, l1, l2 + -tmP a1 b3, l3, rfl, .inr <| .inr <| .inr <| .inr <| ⟨rfl, by have := E.out; omega⟩, hr, h4, h5, h8, hbe⟩
         case measure => simp [intOf]
      case hcx13_10 =>
       go_simp
       refine (HT13.out _).mono ?_
       rintro e w3 ⟨rfl, bb⟩
       go_wp2_with fail
       replace hr := hr.below bb hr.lt
       replace h4 := h4.below bb h4.lt
       replace h5 := h5.below bb h5.lt
       replace h8 := h8.below bb h8.lt
       replace hbe := hbe.on bb
       clear bb
       refine hK.out _ _ ⟨h4.cell 1, h5.cell 3⟩ (fun hH => ?_)
       clear hK K
       try (simp only [Act.put, List.setIfInBounds_toArray, List.set_cons_zero, List.set_cons_succ])
       refine tk 11 hH ?_
       refine rd1 2 (fun K hK => ?hcx13b_2)
       case hcx13b_2 =>
        have c0 : w3.cell? ⟨o, 2, none⟩ = some (.int .i64 l2) := h8.cell 2
        go_simp
        try go_wp2_with fail
        clear c0
        refine hK.out _ _ ⟨h4.cell 1, h5.cell 3⟩ (fun hH => ?_)
        clear hK K
        try (simp only [Act.put, List.setIfInBounds_toArray, List.set_cons_zero, List.set_cons_succ])
        refine tk 12 hH ?_
        refine tk 13 hH ?_
        refine rd1 14 (fun K hK => ?hcx13bs_14)
        case hcx13bs_14 =>
         have c0 : w3.cell? ⟨o, 2, none⟩ = some (.int .i64 l2) := h8.cell 2
         have z0 := h8.frozen 2
         go_simp
         try go_wp2_with fail
         clear c0 z0
         have lr := hr.lt
         replace hr := hr.fr o 2 (by omega) (.int .i64 (l2 + -tmP a1 b3))
         replace h4 := h4.fr o 2 (by omega) (.int .i64 (l2 + -tmP a1 b3))
         replace h5 := h5.fr o 2 (by omega) (.int .i64 (l2 + -tmP a1 b3))
         replace h8 : Blk (w3.setCell ⟨o, 2, none⟩ (.int .i64 (l2 + -tmP a1 b3))) o 129 #[.int .i64 (l0), .int .i64 (l1), .int .i64 (l2 + -tmP a1 b3), .int .i64 (l3)] := by have := h8.set_ 2 (.int .i64 (l2 + -tmP a1 b3)); simpa using this
         replace hbe := hbe.sc o 2 (by omega) (.int .i64 (l2 + -tmP a1 b3))
         generalize w3.setCell ⟨o, 2, none⟩ (.int .i64 (l2 + -tmP a1 b3)) = wz at *
         refine hK.out _ _ ⟨h4.cell 1, h5.cell 3⟩ (fun hH => ?_)
         clear hK K
         try (simp only [Act.put, List.setIfInBounds_toArray, List.set_cons_zero, List.set_cons_succ])
         refine wpAnyH_done ?hrzr13b ?hqzr13b _
         case hrzr13b => kernel_rfl
         refine NoPanic.normal ?_
         go_wp2
         go_roundw
         case rel => exact ⟨4, l0, l1, l2 + -tmP a1 b3, l3, rfl, .inr <| .inr <| .inr <| .inr <| ⟨rfl, by have := E.out; omega⟩, hr, h4, h5, h8, hbe⟩
         case measure => simp [intOf]
     ·have E := hid (show l0 = 0 + tmP a0 b0 - tmP a1 b1 ∧ l1 = 0 + tmP a0 b1 + tmP a1 b0 ∧ l2 = 0 + tmP a0 b2 - tmP a1 b3 ∧ l3 = 0 + tmP a0 b3 + tmP a1 b2 from ⟨e0, e1, e2, e3⟩)
      clear e0 e1 e2 e3 hcut
      go_wp2
      go_roundw
      case rel => exact ⟨2, l0, l1, l2, l3, rfl, .inr <| .inr <| .inl ⟨rfl, E.out⟩, hr, h4, h5, h8, hbe⟩
      case measure => simp [intOf]
   ·have E := hid (show l0 = 0 + tmP a0 b0 - tmP a1 b1 ∧ l1 = 0 + tmP a0 b1 + tmP a1 b0 ∧ l2 = 0 + tmP a0 b2 - tmP a1 b3 ∧ l3 = 0 + tmP a0 b3 + tmP a1 b2 from ⟨e0, e1, e2, e3⟩)
    clear e0 e1 e2 e3 hcut
    go_wp2_with fail
    go_loopw [20] (fun j wr => ∃ J l0 l1 l2 l3 : Int, j = .int .i64 J ∧ Hid (MulI2 a0 a1 a2 a3 b0 b1 b2 b3 J l0 l1 l2 l3) ∧ Blk wr (w.heap.size + 1 + 1) 23 #[.int .i32 0, .int .i32 0, .int .i32 0, .int .i32 0] ∧ Blk wr g 94 #[.int .i32 a0, .int .i32 a1, .int .i32 a2, .int .i32 a3] ∧ Blk wr h 94 #[.int .i32 b0, .int .i32 b1, .int .i32 b2, .int .i32 b3] ∧ Blk wr o 129 #[.int .i64 l0, .int .i64 l1, .int .i64 l2, .int .i64 l3] ∧ Below w.heap.size w wr) (fun j _ => 4 - (intOf j).toNat)
    case atStart => exact ⟨0, l0, l1, l2, l3, rfl, .inl ⟨rfl, E.out⟩, hr, h4, h5, h8, hbe⟩
    case round =>
     clear hr h4 h5 h8 hbe E
     obtain ⟨J, l0, l1, l2, l3, rfl, hcut, hr, h4, h5, h8, hbe⟩ := hrel
     rcases hcut.out with ⟨rfl, e0, e1, e2, e3⟩ | ⟨rfl, e0, e1, e2, e3⟩ | ⟨rfl, e0, e1, e2, e3⟩ | ⟨rfl, e0, e1, e2, e3⟩ | ⟨rfl, e0, e1, e2, e3⟩
     ·have E := hid (show l0 = 0 + tmP a0 b0 - tmP a1 b1 ∧ l1 = 0 + tmP a0 b1 + tmP a1 b0 ∧ l2 = 0 + tmP a0 b2 - tmP a1 b3 ∧ l3 = 0 + tmP a0 b3 + tmP a1 b2 from ⟨e0, e1, e2, e3⟩)
      have hbd : (-4294967297 ≤ tmP a2 b0 ∧ tmP a2 b0 ≤ 4294967297) ∧ -17179869188 ≤ l2 ∧ l2 ≤ 17179869188 := by
       have := HB.out
       unfold MulB at this
       omega
      obtain ⟨⟨m1, m2⟩, m3, m4⟩ := hbd
      clear e0 e1 e2 e3 hcut
      have u1 : IntKind.i64.wrap (tmP a2 b0) = tmP a2 b0 := IntWalk.i64_in _ (by omega)
      have u2 : IntKind.i64.wrap (l2 + tmP a2 b0) = l2 + tmP a2 b0 := IntWalk.i64_in _ (by omega)
      go_wp2_with fail
      refine (HPL.out 2 0 2 (1) _ (by simp)).mono ?_
      rintro e w1 ⟨rfl, bb⟩
      replace hr := hr.below bb hr.lt
      replace h4 := h4.below bb h4.lt
      replace h5 := h5.below bb h5.lt
      replace h8 := h8.below bb h8.lt
      replace hbe := hbe.on bb
      clear bb
      go_wp2_with fail
      refine wp_region_noPanic ?_
      refine wp_region_held_drew (S := fun w' : World => w'.cell? ⟨g, 2, none⟩ = some (.int .i32 a2) ∧ w'.cell? ⟨h, 0, none⟩ = some (.int .i32 b0)) (by kernel_rfl) ⟨h4.cell 2, h5.cell 0⟩ (fun hH => ?_)
      refine (show wpAnyH _ _ _ _ _ 15 _ _ _ from ?_)
      try (simp only [Act.put, List.setIfInBounds_toArray, List.set_cons_zero, List.set_cons_succ])
      replace hr := hr.drew
      replace h4 := h4.drew
      replace h5 := h5.drew
      replace h8 := h8.drew
      replace hbe := hbe.drew
      generalize w1.drew = w2 at *
      refine tk 0 hH ?_
      refine tk 1 hH ?_
      refine tk 3 hH ?_
      refine tk 4 hH ?_
      refine tk 5 hH ?_
      refine tk 6 hH ?_
      refine tk 7 hH ?_
      refine tk 8 hH ?_
      refine tk 9 hH ?_
      refine rd2 2 10 (fun K hK => ?hcx20_2) (fun K hK => ?hcx20_10)
      case hcx20_2 =>
       have c0 : w2.cell? ⟨o, 2, none⟩ = some (.int .i64 l2) := h8.cell 2
       go_simp
       try go_wp2_with fail
       clear c0
       refine hK.out _ _ ⟨h4.cell 2, h5.cell 0⟩ (fun hH => ?_)
       clear hK K
       try (simp only [Act.put, List.setIfInBounds_toArray, List.set_cons_zero, List.set_cons_succ])
       refine rd1 10 (fun K hK => ?hcx20a_10)
       case hcx20a_10 =>
        go_simp
        refine (HT20.out _).mono ?_
        rintro e w3 ⟨rfl, bb⟩
        go_wp2_with fail
        replace hr := hr.below bb hr.lt
        replace h4 := h4.below bb h4.lt
        replace h5 := h5.below bb h5.lt
        replace h8 := h8.below bb h8.lt
        replace hbe := hbe.on bb
        clear bb
        refine hK.out _ _ ⟨h4.cell 2, h5.cell 0⟩ (fun hH => ?_)
        clear hK K
        try (simp only [Act.put, List.setIfInBounds_toArray, List.set_cons_zero, List.set_cons_succ])
        refine tk 11 hH ?_
        refine tk 12 hH ?_
        refine tk 13 hH ?_
        refine rd1 14 (fun K hK => ?hcx20as_14)
        case hcx20as_14 =>
         have c0 : w3.cell? ⟨o, 2, none⟩ = some (.int .i64 l2) := h8.cell 2
         have z0 := h8.frozen 2
         go_simp
         try go_wp2_with fail
         clear c0 z0
         have lr := hr.lt
         replace hr := hr.fr o 2 (by omega) (.int .i64 (l2 + tmP a2 b0))
         replace h4 := h4.fr o 2 (by omega) (.int .i64 (l2 + tmP a2 b0))
         replace h5 := h5.fr o 2 (by omega) (.int .i64 (l2 + tmP a2 b0))
         replace h8 : Blk (w3.setCell ⟨o, 2, none⟩ (.int .i64 (l2 + tmP a2 b0))) o 129 #[.int .i64 (l0), .int .i64 (l1), .int .i64 (l2 + tmP a2 b0), .int .i64 (l3)] := by have := h8.set_ 2 (.int .i64 (l2 + tmP a2 b0)); simpa using this
         replace hbe := hbe.sc o 2 (by omega) (.int .i64 (l2 + tmP a2 b0))
         generalize w3.setCell ⟨o, 2, none⟩ (.int .i64 (l2 + tmP a2 b0)) = wz at *
         refine hK.out _ _ ⟨h4.cell 2, h5.cell 0⟩ (fun hH => ?_)
         clear hK K
         try (simp only [Act.put, List.setIfInBounds_toArray, List.set_cons_zero, List.set_cons_succ])
         refine wpAnyH_done ?hrzr20a ?hqzr20a _
         case hrzr20a => kernel_rfl
         refine NoPanic.normal ?_
         go_wp2
         go_roundw
         case rel => exact ⟨1, l0, l1, l2 + tmP a2 b0, l3, rfl, .inr <| .inl ⟨rfl, by have := E.out; omega⟩, hr, h4, h5, h8, hbe⟩
         case measure => simp [intOf]
      case hcx20_10 =>
       go_simp
       refine (HT20.out _).mono ?_
       rintro e w3 ⟨rfl, bb⟩
       go_wp2_with fail
       replace hr := hr.below bb hr.lt
       replace h4 := h4.below bb h4.lt
       replace h5 := h5.below bb h5.lt
       replace h8 := h8.below bb h8.lt
       replace hbe := hbe.on bb
       clear bb
       refine hK.out _ _ ⟨h4.cell 2, h5.cell 0⟩ (fun hH => ?_)
       clear hK K
       try (simp only [Act.put, List.setIfInBounds_toArray, List.set_cons_zero, List.set_cons_succ])
       refine tk 11 hH ?_
       refine rd1 2 (fun K hK => ?hcx20b_2)
       case hcx20b_2 =>
        have c0 : w3.cell? ⟨o, 2, none⟩ = some (.int .i64 l2) := h8.cell 2
        go_simp
        try go_wp2_with fail
        clear c0
        refine hK.out _ _ ⟨h4.cell 2, h5.cell 0⟩ (fun hH => ?_)
        clear hK K
        try (simp only [Act.put, List.setIfInBounds_toArray, List.set_cons_zero, List.set_cons_succ])
        refine tk 12 hH ?_
        refine tk 13 hH ?_
        refine rd1 14 (fun K hK => ?hcx20bs_14)
        case hcx20bs_14 =>
         have c0 : w3.cell? ⟨o, 2, none⟩ = some (.int .i64 l2) := h8.cell 2
         have z0 := h8.frozen 2
         go_simp
         try go_wp2_with fail
         clear c0 z0
         have lr := hr.lt
         replace hr := hr.fr o 2 (by omega) (.int .i64 (l2 + tmP a2 b0))
         replace h4 := h4.fr o 2 (by omega) (.int .i64 (l2 + tmP a2 b0))
         replace h5 := h5.fr o 2 (by omega) (.int .i64 (l2 + tmP a2 b0))
         replace h8 : Blk (w3.setCell ⟨o, 2, none⟩ (.int .i64 (l2 + tmP a2 b0))) o 129 #[.int .i64 (l0), .int .i64 (l1), .int .i64 (l2 + tmP a2 b0), .int .i64 (l3)] := by have := h8.set_ 2 (.int .i64 (l2 + tmP a2 b0)); simpa using this
         replace hbe := hbe.sc o 2 (by omega) (.int .i64 (l2 + tmP a2 b0))
         generalize w3.setCell ⟨o, 2, none⟩ (.int .i64 (l2 + tmP a2 b0)) = wz at *
         refine hK.out _ _ ⟨h4.cell 2, h5.cell 0⟩ (fun hH => ?_)
         clear hK K
         try (simp only [Act.put, List.setIfInBounds_toArray, List.set_cons_zero, List.set_cons_succ])
         refine wpAnyH_done ?hrzr20b ?hqzr20b _
         case hrzr20b => kernel_rfl
         refine NoPanic.normal ?_
         go_wp2
         go_roundw
         case rel => exact ⟨1, l0, l1, l2 + tmP a2 b0, l3, rfl, .inr <| .inl ⟨rfl, by have := E.out; omega⟩, hr, h4, h5, h8, hbe⟩
         case measure => simp [intOf]
     ·have E := hid (show l0 = 0 + tmP a0 b0 - tmP a1 b1 ∧ l1 = 0 + tmP a0 b1 + tmP a1 b0 ∧ l2 = 0 + tmP a0 b2 - tmP a1 b3 + tmP a2 b0 ∧ l3 = 0 + tmP a0 b3 + tmP a1 b2 from ⟨e0, e1, e2, e3⟩)
      have hbd : (-4294967297 ≤ tmP a2 b1 ∧ tmP a2 b1 ≤ 4294967297) ∧ -17179869188 ≤ l3 ∧ l3 ≤ 17179869188 := by
       have := HB.out
       unfold MulB at this
       omega
      obtain ⟨⟨m1, m2⟩, m3, m4⟩ := hbd
      clear e0 e1 e2 e3 hcut
      have u1 : IntKind.i64.wrap (-tmP a2 b1) = -tmP a2 b1 := IntWalk.i64_in _ (by omega)
      have u2 : IntKind.i64.wrap (l3 + -tmP a2 b1) = l3 + -tmP a2 b1 := IntWalk.i64_in _ (by omega)
      go_wp2_with fail
      refine (HPL.out 2 1 3 (-1) _ (by simp)).mono ?_
      rintro e w1 ⟨rfl, bb⟩
      replace hr := hr.below bb hr.lt
      replace h4 := h4.below bb h4.lt
      replace h5 := h5.below bb h5.lt
      replace h8 := h8.below bb h8.lt
      replace hbe := hbe.on bb
      clear bb
      go_wp2_with fail
      refine wp_region_noPanic ?_
      refine wp_region_held_drew (S := fun w' : World => w'.cell? ⟨g, 2, none⟩ = some (.int .i32 a2) ∧ w'.cell? ⟨h, 1, none⟩ = some (.int .i32 b1)) (by kernel_rfl) ⟨h4.cell 2, h5.cell 1⟩ (fun hH => ?_)
      refine (show wpAnyH _ _ _ _ _ 15 _ _ _ from ?_)
      try (simp only [Act.put, List.setIfInBounds_toArray, List.set_cons_zero, List.set_cons_succ])
      replace hr := hr.drew
      replace h4 := h4.drew
      replace h5 := h5.drew
      replace h8 := h8.drew
      replace hbe := hbe.drew
      generalize w1.drew = w2 at *
      refine tk 0 hH ?_
      refine tk 1 hH ?_
      refine tk 3 hH ?_
      refine tk 4 hH ?_
      refine tk 5 hH ?_
      refine tk 6 hH ?_
      refine tk 7 hH ?_
      refine tk 8 hH ?_
      refine tk 9 hH ?_
      refine rd2 2 10 (fun K hK => ?hcx21_2) (fun K hK => ?hcx21_10)
      case hcx21_2 =>
       have c0 : w2.cell? ⟨o, 3, none⟩ = some (.int .i64 l3) := h8.cell 3
       go_simp
       try go_wp2_with fail
       clear c0
       refine hK.out _ _ ⟨h4.cell 2, h5.cell 1⟩ (fun hH => ?_)
       clear hK K
       try (simp only [Act.put, List.setIfInBounds_toArray, List.set_cons_zero, List.set_cons_succ])
       refine rd1 10 (fun K hK => ?hcx21a_10)
       case hcx21a_10 =>
        go_simp
        refine (HT21.out _).mono ?_
        rintro e w3 ⟨rfl, bb⟩
        go_wp2_with fail
        replace hr := hr.below bb hr.lt
        replace h4 := h4.below bb h4.lt
        replace h5 := h5.below bb h5.lt
        replace h8 := h8.below bb h8.lt
        replace hbe := hbe.on bb
        clear bb
        refine hK.out _ _ ⟨h4.cell 2, h5.cell 1⟩ (fun hH => ?_)
        clear hK K
        try (simp only [Act.put, List.setIfInBounds_toArray, List.set_cons_zero, List.set_cons_succ])
        refine tk 11 hH ?_
        refine tk 12 hH ?_
        refine tk 13 hH ?_
        refine rd1 14 (fun K hK => ?hcx21as_14)
        case hcx21as_14 =>
         have c0 : w3.cell? ⟨o, 3, none⟩ = some (.int .i64 l3) := h8.cell 3
         have z0 := h8.frozen 3
         go_simp
         try go_wp2_with fail
         clear c0 z0
         have lr := hr.lt
         replace hr := hr.fr o 3 (by omega) (.int .i64 (l3 + -tmP a2 b1))
         replace h4 := h4.fr o 3 (by omega) (.int .i64 (l3 + -tmP a2 b1))
         replace h5 := h5.fr o 3 (by omega) (.int .i64 (l3 + -tmP a2 b1))
         replace h8 : Blk (w3.setCell ⟨o, 3, none⟩ (.int .i64 (l3 + -tmP a2 b1))) o 129 #[.int .i64 (l0), .int .i64 (l1), .int .i64 (l2), .int .i64 (l3 + -tmP a2 b1)] := by have := h8.set_ 3 (.int .i64 (l3 + -tmP a2 b1)); simpa using this
         replace hbe := hbe.sc o 3 (by omega) (.int .i64 (l3 + -tmP a2 b1))
         generalize w3.setCell ⟨o, 3, none⟩ (.int .i64 (l3 + -tmP a2 b1)) = wz at *
         refine hK.out _ _ ⟨h4.cell 2, h5.cell 1⟩ (fun hH => ?_)
         clear hK K
         try (simp only [Act.put, List.setIfInBounds_toArray, List.set_cons_zero, List.set_cons_succ])
         refine wpAnyH_done ?hrzr21a ?hqzr21a _
         case hrzr21a => kernel_rfl
         refine NoPanic.normal ?_
         go_wp2
         go_roundw
         case rel => exact ⟨2, l0, l1, l2, l3 + -tmP a2 b1, rfl, .inr <| .inr <| .inl ⟨rfl, by have := E.out; omega⟩, hr, h4, h5, h8, hbe⟩
         case measure => simp [intOf]
      case hcx21_10 =>
       go_simp
       refine (HT21.out _).mono ?_
       rintro e w3 ⟨rfl, bb⟩
       go_wp2_with fail
       replace hr := hr.below bb hr.lt
       replace h4 := h4.below bb h4.lt
       replace h5 := h5.below bb h5.lt
       replace h8 := h8.below bb h8.lt
       replace hbe := hbe.on bb
       clear bb
       refine hK.out _ _ ⟨h4.cell 2, h5.cell 1⟩ (fun hH => ?_)
       clear hK K
       try (simp only [Act.put, List.setIfInBounds_toArray, List.set_cons_zero, List.set_cons_succ])
       refine tk 11 hH ?_
       refine rd1 2 (fun K hK => ?hcx21b_2)
       case hcx21b_2 =>
        have c0 : w3.cell? ⟨o, 3, none⟩ = some (.int .i64 l3) := h8.cell 3
        go_simp
        try go_wp2_with fail
        clear c0
        refine hK.out _ _ ⟨h4.cell 2, h5.cell 1⟩ (fun hH => ?_)
        clear hK K
        try (simp only [Act.put, List.setIfInBounds_toArray, List.set_cons_zero, List.set_cons_succ])
        refine tk 12 hH ?_
        refine tk 13 hH ?_
        refine rd1 14 (fun K hK => ?hcx21bs_14)
        case hcx21bs_14 =>
         have c0 : w3.cell? ⟨o, 3, none⟩ = some (.int .i64 l3) := h8.cell 3
         have z0 := h8.frozen 3
         go_simp
         try go_wp2_with fail
         clear c0 z0
         have lr := hr.lt
         replace hr := hr.fr o 3 (by omega) (.int .i64 (l3 + -tmP a2 b1))
         replace h4 := h4.fr o 3 (by omega) (.int .i64 (l3 + -tmP a2 b1))
         replace h5 := h5.fr o 3 (by omega) (.int .i64 (l3 + -tmP a2 b1))
         replace h8 : Blk (w3.setCell ⟨o, 3, none⟩ (.int .i64 (l3 + -tmP a2 b1))) o 129 #[.int .i64 (l0), .int .i64 (l1), .int .i64 (l2), .int .i64 (l3 + -tmP a2 b1)] := by have := h8.set_ 3 (.int .i64 (l3 + -tmP a2 b1)); simpa using this
         replace hbe := hbe.sc o 3 (by omega) (.int .i64 (l3 + -tmP a2 b1))
         generalize w3.setCell ⟨o, 3, none⟩ (.int .i64 (l3 + -tmP a2 b1)) = wz at *
         refine hK.out _ _ ⟨h4.cell 2, h5.cell 1⟩ (fun hH => ?_)
         clear hK K
         try (simp only [Act.put, List.setIfInBounds_toArray, List.set_cons_zero, List.set_cons_succ])
         refine wpAnyH_done ?hrzr21b ?hqzr21b _
         case hrzr21b => kernel_rfl
         refine NoPanic.normal ?_
         go_wp2
         go_roundw
         case rel => exact ⟨2, l0, l1, l2, l3 + -tmP a2 b1, rfl, .inr <| .inr <| .inl ⟨rfl, by have := E.out; omega⟩, hr, h4, h5, h8, hbe⟩
         case measure => simp [intOf]
     ·have E := hid (show l0 = 0 + tmP a0 b0 - tmP a1 b1 ∧ l1 = 0 + tmP a0 b1 + tmP a1 b0 ∧ l2 = 0 + tmP a0 b2 - tmP a1 b3 + tmP a2 b0 ∧ l3 = 0 + tmP a0 b3 + tmP a1 b2 - tmP a2 b1 from ⟨e0, e1, e2, e3⟩)
      have hbd : (-4294967297 ≤ tmP a2 b2 ∧ tmP a2 b2 ≤ 4294967297) ∧ -17179869188 ≤ l0 ∧ l0 ≤ 17179869188 := by
       have := HB.out
       unfold MulB at this
       omega
      obtain ⟨⟨m1, m2⟩, m3, m4⟩ := hbd
      clear e0 e1 e2 e3 hcut
      have u1 : IntKind.i64.wrap (-tmP a2 b2) = -tmP a2 b2 := IntWalk.i64_in _ (by omega)
      have u2 : IntKind.i64.wrap (l0 + -tmP a2 b2) = l0 + -tmP a2 b2 := IntWalk.i64_in _ (by omega)
      go_wp2_with fail
      refine (HPL.out 2 2 0 (-1) _ (by simp)).mono ?_
      rintro e w1 ⟨rfl, bb⟩
      replace hr := hr.below bb hr.lt
      replace h4 := h4.below bb h4.lt
      replace h5 := h5.below bb h5.lt
      replace h8 := h8.below bb h8.lt
      replace hbe := hbe.on bb
      clear bb
      go_wp2_with fail
      refine wp_region_noPanic ?_
      refine wp_region_held_drew (S := fun w' : World => w'.cell? ⟨g, 2, none⟩ = some (.int .i32 a2) ∧ w'.cell? ⟨h, 2, none⟩ = some (.int .i32 b2)) (by kernel_rfl) ⟨h4.cell 2, h5.cell 2⟩ (fun hH => ?_)
      refine (show wpAnyH _ _ _ _ _ 15 _ _ _ from ?_)
      try (simp only [Act.put, List.setIfInBounds_toArray, List.set_cons_zero, List.set_cons_succ])
      replace hr := hr.drew
      replace h4 := h4.drew
      replace h5 := h5.drew
      replace h8 := h8.drew
      replace hbe := hbe.drew
      generalize w1.drew = w2 at *
      refine tk 0 hH ?_
      refine tk 1 hH ?_
      refine tk 3 hH ?_
      refine tk 4 hH ?_
      refine tk 5 hH ?_
      refine tk 6 hH ?_
      refine tk 7 hH ?_
      refine tk 8 hH ?_
      refine tk 9 hH ?_
      refine rd2 2 10 (fun K hK => ?hcx22_2) (fun K hK => ?hcx22_10)
      case hcx22_2 =>
       have c0 : w2.cell? ⟨o, 0, none⟩ = some (.int .i64 l0) := h8.cell 0
       go_simp
       try go_wp2_with fail
       clear c0
       refine hK.out _ _ ⟨h4.cell 2, h5.cell 2⟩ (fun hH => ?_)
       clear hK K
       try (simp only [Act.put, List.setIfInBounds_toArray, List.set_cons_zero, List.set_cons_succ])
       refine rd1 10 (fun K hK => ?hcx22a_10)
       case hcx22a_10 =>
        go_simp
        refine (HT22.out _).mono ?_
        rintro e w3 ⟨rfl, bb⟩
        go_wp2_with fail
        replace hr := hr.below bb hr.lt
        replace h4 := h4.below bb h4.lt
        replace h5 := h5.below bb h5.lt
        replace h8 := h8.below bb h8.lt
        replace hbe := hbe.on bb
        clear bb
        refine hK.out _ _ ⟨h4.cell 2, h5.cell 2⟩ (fun hH => ?_)
        clear hK K
        try (simp only [Act.put, List.setIfInBounds_toArray, List.set_cons_zero, List.set_cons_succ])
        refine tk 11 hH ?_
        refine tk 12 hH ?_
        refine tk 13 hH ?_
        refine rd1 14 (fun K hK => ?hcx22as_14)
        case hcx22as_14 =>
         have c0 : w3.cell? ⟨o, 0, none⟩ = some (.int .i64 l0) := h8.cell 0
         have z0 := h8.frozen 0
         go_simp
         try go_wp2_with fail
         clear c0 z0
         have lr := hr.lt
         replace hr := hr.fr o 0 (by omega) (.int .i64 (l0 + -tmP a2 b2))
         replace h4 := h4.fr o 0 (by omega) (.int .i64 (l0 + -tmP a2 b2))
         replace h5 := h5.fr o 0 (by omega) (.int .i64 (l0 + -tmP a2 b2))
         replace h8 : Blk (w3.setCell ⟨o, 0, none⟩ (.int .i64 (l0 + -tmP a2 b2))) o 129 #[.int .i64 (l0 + -tmP a2 b2), .int .i64 (l1), .int .i64 (l2), .int .i64 (l3)] := by have := h8.set_ 0 (.int .i64 (l0 + -tmP a2 b2)); simpa using this
         replace hbe := hbe.sc o 0 (by omega) (.int .i64 (l0 + -tmP a2 b2))
         generalize w3.setCell ⟨o, 0, none⟩ (.int .i64 (l0 + -tmP a2 b2)) = wz at *
         refine hK.out _ _ ⟨h4.cell 2, h5.cell 2⟩ (fun hH => ?_)
         clear hK K
         try (simp only [Act.put, List.setIfInBounds_toArray, List.set_cons_zero, List.set_cons_succ])
         refine wpAnyH_done ?hrzr22a ?hqzr22a _
         case hrzr22a => kernel_rfl
         refine NoPanic.normal ?_
         go_wp2
         go_roundw
         case rel => exact ⟨3, l0 + -tmP a2 b2, l1, l2, l3, rfl, .inr <| .inr <| .inr <| .inl ⟨rfl, by have := E.out; omega⟩, hr, h4, h5, h8, hbe⟩
         case measure => simp [intOf]
      case hcx22_10 =>
       go_simp
       refine (HT22.out _).mono ?_
       rintro e w3 ⟨rfl, bb⟩
       go_wp2_with fail
       replace hr := hr.below bb hr.lt
       replace h4 := h4.below bb h4.lt
       replace h5 := h5.below bb h5.lt
       replace h8 := h8.below bb h8.lt
       replace hbe := hbe.on bb
       clear bb
       refine hK.out _ _ ⟨h4.cell 2, h5.cell 2⟩ (fun hH => ?_)
       clear hK K
       try (simp only [Act.put, List.setIfInBounds_toArray, List.set_cons_zero, List.set_cons_succ])
       refine tk 11 hH ?_
       refine rd1 2 (fun K hK => ?hcx22b_2)
       case hcx22b_2 =>
        have c0 : w3.cell? ⟨o, 0, none⟩ = some (.int .i64 l0) := h8.cell 0
        go_simp
        try go_wp2_with fail
        clear c0
        refine hK.out _ _ ⟨h4.cell 2, h5.cell 2⟩ (fun hH => ?_)
        clear hK K
        try (simp only [Act.put, List.setIfInBounds_toArray, List.set_cons_zero, List.set_cons_succ])
        refine tk 12 hH ?_
        refine tk 13 hH ?_
        refine rd1 14 (fun K hK => ?hcx22bs_14)
        case hcx22bs_14 =>
         have c0 : w3.cell? ⟨o, 0, none⟩ = some (.int .i64 l0) := h8.cell 0
         have z0 := h8.frozen 0
         go_simp
         try go_wp2_with fail
         clear c0 z0
         have lr := hr.lt
         replace hr := hr.fr o 0 (by omega) (.int .i64 (l0 + -tmP a2 b2))
         replace h4 := h4.fr o 0 (by omega) (.int .i64 (l0 + -tmP a2 b2))
         replace h5 := h5.fr o 0 (by omega) (.int .i64 (l0 + -tmP a2 b2))
         replace h8 : Blk (w3.setCell ⟨o, 0, none⟩ (.int .i64 (l0 + -tmP a2 b2))) o 129 #[.int .i64 (l0 + -tmP a2 b2), .int .i64 (l1), .int .i64 (l2), .int .i64 (l3)] := by have := h8.set_ 0 (.int .i64 (l0 + -tmP a2 b2)); simpa using this
         replace hbe := hbe.sc o 0 (by omega) (.int .i64 (l0 + -tmP a2 b2))
         generalize w3.setCell ⟨o, 0, none⟩ (.int .i64 (l0 + -tmP a2 b2)) = wz at *
         refine hK.out _ _ ⟨h4.cell 2, h5.cell 2⟩ (fun hH => ?_)
         clear hK K
         try (simp only [Act.put, List.setIfInBounds_toArray, List.set_cons_zero, List.set_cons_succ])
         refine wpAnyH_done ?hrzr22b ?hqzr22b _
         case hrzr22b => kernel_rfl
         refine NoPanic.normal ?_
         go_wp2
         go_roundw
         case rel => exact ⟨3, l0 + -tmP a2 b2, l1, l2, l3, rfl, .inr <| .inr <| .inr <| .inl ⟨rfl, by have := E.out; omega⟩, hr, h4, h5, h8, hbe⟩
         case measure => simp [intOf]
     ·have E := hid (show l0 = 0 + tmP a0 b0 - tmP a1 b1 - tmP a2 b2 ∧ l1 = 0 + tmP a0 b1 + tmP a1 b0 ∧ l2 = 0 + tmP a0 b2 - tmP a1 b3 + tmP a2 b0 ∧ l3 = 0 + tmP a0 b3 + tmP a1 b2 - tmP a2 b1 from ⟨e0, e1, e2, e3⟩)
      have hbd : (-4294967297 ≤ tmP a2 b3 ∧ tmP a2 b3 ≤ 4294967297) ∧ -17179869188 ≤ l1 ∧ l1 ≤ 17179869188 := by
       have := HB.out
       unfold MulB at this
       omega
      obtain ⟨⟨m1, m2⟩, m3, m4⟩ := hbd
      clear e0 e1 e2 e3 hcut
      have u1 : IntKind.i64.wrap (tmP a2 b3) = tmP a2 b3 := IntWalk.i64_in _ (by omega)
      have u2 : IntKind.i64.wrap (l1 + tmP a2 b3) = l1 + tmP a2 b3 := IntWalk.i64_in _ (by omega)
      go_wp2_with fail
      refine (HPL.out 2 3 1 (1) _ (by simp)).mono ?_
      rintro e w1 ⟨rfl, bb⟩
      replace hr := hr.below bb hr.lt
      replace h4 := h4.below bb h4.lt
      replace h5 := h5.below bb h5.lt
      replace h8 := h8.below bb h8.lt
      replace hbe := hbe.on bb
      clear bb
      go_wp2_with fail
      refine wp_region_noPanic ?_
      refine wp_region_held_drew (S := fun w' : World => w'.cell? ⟨g, 2, none⟩ = some (.int .i32 a2) ∧ w'.cell? ⟨h, 3, none⟩ = some (.int .i32 b3)) (by kernel_rfl) ⟨h4.cell 2, h5.cell 3⟩ (fun hH => ?_)
      refine (show wpAnyH _ _ _ _ _ 15 _ _ _ from ?_)
      try (simp only [Act.put, List.setIfInBounds_toArray, List.set_cons_zero, List.set_cons_succ])
      replace hr := hr.drew
      replace h4 := h4.drew
      replace h5 := h5.drew
      replace h8 := h8.drew
      replace hbe := hbe.drew
      generalize w1.drew = w2 at *
      refine tk 0 hH ?_
      refine tk 1 hH ?_
      refine tk 3 hH ?_
      refine tk 4 hH ?_
      refine tk 5 hH ?_
      refine tk 6 hH ?_
      refine tk 7 hH ?_
      refine tk 8 hH ?_
      refine tk 9 hH ?_
      refine rd2 2 10 (fun K hK => ?hcx23_2) (fun K hK => ?hcx23_10)
      case hcx23_2 =>
       have c0 : w2.cell? ⟨o, 1, none⟩ = some (.int .i64 l1) := h8.cell 1
       go_simp
       try go_wp2_with fail
       clear c0
       refine hK.out _ _ ⟨h4.cell 2, h5.cell 3⟩ (fun hH => ?_)
       clear hK K
       try (simp only [Act.put, List.setIfInBounds_toArray, List.set_cons_zero, List.set_cons_succ])
       refine rd1 10 (fun K hK => ?hcx23a_10)
       case hcx23a_10 =>
        go_simp
        refine (HT23.out _).mono ?_
        rintro e w3 ⟨rfl, bb⟩
        go_wp2_with fail
        replace hr := hr.below bb hr.lt
        replace h4 := h4.below bb h4.lt
        replace h5 := h5.below bb h5.lt
        replace h8 := h8.below bb h8.lt
        replace hbe := hbe.on bb
        clear bb
        refine hK.out _ _ ⟨h4.cell 2, h5.cell 3⟩ (fun hH => ?_)
        clear hK K
        try (simp only [Act.put, List.setIfInBounds_toArray, List.set_cons_zero, List.set_cons_succ])
        refine tk 11 hH ?_
        refine tk 12 hH ?_
        refine tk 13 hH ?_
        refine rd1 14 (fun K hK => ?hcx23as_14)
        case hcx23as_14 =>
         have c0 : w3.cell? ⟨o, 1, none⟩ = some (.int .i64 l1) := h8.cell 1
         have z0 := h8.frozen 1
         go_simp
         try go_wp2_with fail
         clear c0 z0
         have lr := hr.lt
         replace hr := hr.fr o 1 (by omega) (.int .i64 (l1 + tmP a2 b3))
         replace h4 := h4.fr o 1 (by omega) (.int .i64 (l1 + tmP a2 b3))
         replace h5 := h5.fr o 1 (by omega) (.int .i64 (l1 + tmP a2 b3))
         replace h8 : Blk (w3.setCell ⟨o, 1, none⟩ (.int .i64 (l1 + tmP a2 b3))) o 129 #[.int .i64 (l0), .int .i64 (l1 + tmP a2 b3), .int .i64 (l2), .int .i64 (l3)] := by have := h8.set_ 1 (.int .i64 (l1 + tmP a2 b3)); simpa using this
         replace hbe := hbe.sc o 1 (by omega) (.int .i64 (l1 + tmP a2 b3))
         generalize w3.setCell ⟨o, 1, none⟩ (.int .i64 (l1 + tmP a2 b3)) = wz at *
         refine hK.out _ _ ⟨h4.cell 2, h5.cell 3⟩ (fun hH => ?_)
         clear hK K
         try (simp only [Act.put, List.setIfInBounds_toArray, List.set_cons_zero, List.set_cons_succ])
         refine wpAnyH_done ?hrzr23a ?hqzr23a _
         case hrzr23a => kernel_rfl
         refine NoPanic.normal ?_
         go_wp2
         go_roundw
         case rel => exact ⟨4, l0, l1 + tmP a2 b3, l2, l3, rfl, .inr <| .inr <| .inr <| .inr <| ⟨rfl, by have := E.out; omega⟩, hr, h4, h5, h8, hbe⟩
         case measure => simp [intOf]
      case hcx23_10 =>
       go_simp
       refine (HT23.out _).mono ?_
       rintro e w3 ⟨rfl, bb⟩
       go_wp2_with fail
       replace hr := hr.below bb hr.lt
       replace h4 := h4.below bb h4.lt
       replace h5 := h5.below bb h5.lt
       replace h8 := h8.below bb h8.lt
       replace hbe := hbe.on bb
       clear bb
       refine hK.out _ _ ⟨h4.cell 2, h5.cell 3⟩ (fun hH => ?_)
       clear hK K
       try (simp only [Act.put, List.setIfInBounds_toArray, List.set_cons_zero, List.set_cons_succ])
       refine tk 11 hH ?_
       refine rd1 2 (fun K hK => ?hcx23b_2)
       case hcx23b_2 =>
        have c0 : w3.cell? ⟨o, 1, none⟩ = some (.int .i64 l1) := h8.cell 1
        go_simp
        try go_wp2_with fail
        clear c0
        refine hK.out _ _ ⟨h4.cell 2, h5.cell 3⟩ (fun hH => ?_)
        clear hK K
        try (simp only [Act.put, List.setIfInBounds_toArray, List.set_cons_zero, List.set_cons_succ])
        refine tk 12 hH ?_
        refine tk 13 hH ?_
        refine rd1 14 (fun K hK => ?hcx23bs_14)
        case hcx23bs_14 =>
         have c0 : w3.cell? ⟨o, 1, none⟩ = some (.int .i64 l1) := h8.cell 1
         have z0 := h8.frozen 1
         go_simp
         try go_wp2_with fail
         clear c0 z0
         have lr := hr.lt
         replace hr := hr.fr o 1 (by omega) (.int .i64 (l1 + tmP a2 b3))
         replace h4 := h4.fr o 1 (by omega) (.int .i64 (l1 + tmP a2 b3))
         replace h5 := h5.fr o 1 (by omega) (.int .i64 (l1 + tmP a2 b3))
         replace h8 : Blk (w3.setCell ⟨o, 1, none⟩ (.int .i64 (l1 + tmP a2 b3))) o 129 #[.int .i64 (l0), .int .i64 (l1 + tmP a2 b3), .int .i64 (l2), .int .i64 (l3)] := by have := h8.set_ 1 (.int .i64 (l1 + tmP a2 b3)); simpa using this
         replace hbe := hbe.sc o 1 (by omega) (.int .i64 (l1 + tmP a2 b3))
         generalize w3.setCell ⟨o, 1, none⟩ (.int .i64 (l1 + tmP a2 b3)) = wz at *
         refine hK.out _ _ ⟨h4.cell 2, h5.cell 3⟩ (fun hH => ?_)
         clear hK K
         try (simp only [Act.put, List.setIfInBounds_toArray, List.set_cons_zero, List.set_cons_succ])
         refine wpAnyH_done ?hrzr23b ?hqzr23b _
         case hrzr23b => kernel_rfl
         refine NoPanic.normal ?_
         go_wp2
         go_roundw
         case rel => exact ⟨4, l0, l1 + tmP a2 b3, l2, l3, rfl, .inr <| .inr <| .inr <| .inr <| ⟨rfl, by have := E.out; omega⟩, hr, h4, h5, h8, hbe⟩
         case measure => simp [intOf]
     ·have E := hid (show l0 = 0 + tmP a0 b0 - tmP a1 b1 - tmP a2 b2 ∧ l1 = 0 + tmP a0 b1 + tmP a1 b0 + tmP a2 b3 ∧ l2 = 0 + tmP a0 b2 - tmP a1 b3 + tmP a2 b0 ∧ l3 = 0 + tmP a0 b3 + tmP a1 b2 - tmP a2 b1 from ⟨e0, e1, e2, e3⟩)
      clear e0 e1 e2 e3 hcut
      go_wp2
      go_roundw
      case rel => exact ⟨3, l0, l1, l2, l3, rfl, .inr <| .inr <| .inr <| .inl ⟨rfl, E.out⟩, hr, h4, h5, h8, hbe⟩
      case measure => simp [intOf]
   ·have E := hid (show l0 = 0 + tmP a0 b0 - tmP a1 b1 - tmP a2 b2 ∧ l1 = 0 + tmP a0 b1 + tmP a1 b0 + tmP a2 b3 ∧ l2 = 0 + tmP a0 b2 - tmP a1 b3 + tmP a2 b0 ∧ l3 = 0 + tmP a0 b3 + tmP a1 b2 - tmP a2 b1 from ⟨e0, e1, e2, e3⟩)
    clear e0 e1 e2 e3 hcut
    go_wp2_with fail
    go_loopw [20] (fun j wr => ∃ J l0 l1 l2 l3 : Int, j = .int .i64 J ∧ Hid (MulI3 a0 a1 a2 a3 b0 b1 b2 b3 J l0 l1 l2 l3) ∧ Blk wr (w.heap.size + 1 + 1) 23 #[.int .i32 0, .int .i32 0, .int .i32 0, .int .i32 0] ∧ Blk wr g 94 #[.int .i32 a0, .int .i32 a1, .int .i32 a2, .int .i32 a3] ∧ Blk wr h 94 #[.int .i32 b0, .int .i32 b1, .int .i32 b2, .int .i32 b3] ∧ Blk wr o 129 #[.int .i64 l0, .int .i64 l1, .int .i64 l2, .int .i64 l3] ∧ Below w.heap.size w wr) (fun j _ => 4 - (intOf j).toNat)
    case atStart => exact ⟨0, l0, l1, l2, l3, rfl, .inl ⟨rfl, E.out⟩, hr, h4, h5, h8, hbe⟩
    case round =>
     clear hr h4 h5 h8 hbe E
     obtain ⟨J, l0, l1, l2, l3, rfl, hcut, hr, h4, h5, h8, hbe⟩ := hrel
     rcases hcut.out with ⟨rfl, e0, e1, e2, e3⟩ | ⟨rfl, e0, e1, e2, e3⟩ | ⟨rfl, e0, e1, e2, e3⟩ | ⟨rfl, e0, e1, e2, e3⟩ | ⟨rfl, e0, e1, e2, e3⟩
     ·have E := hid (show l0 = 0 + tmP a0 b0 - tmP a1 b1 - tmP a2 b2 ∧ l1 = 0 + tmP a0 b1 + tmP a1 b0 + tmP a2 b3 ∧ l2 = 0 + tmP a0 b2 - tmP a1 b3 + tmP a2 b0 ∧ l3 = 0 + tmP a0 b3 + tmP a1 b2 - tmP a2 b1 from ⟨e0, e1, e2, e3⟩)
      have hbd : (-4294967297 ≤ tmP a3 b0 ∧ tmP a3 b0 ≤ 4294967297) ∧ -17179869188 ≤ l3 ∧ l3 ≤ 17179869188 := by
       have := HB.out
       unfold MulB at this
       omega
      obtain ⟨⟨m1, m2⟩, m3, m4⟩ := hbd
      clear e0 e1 e2 e3 hcut
      have u1 : IntKind.i64.wrap (tmP a3 b0) = tmP a3 b0 := IntWalk.i64_in _ (by omega)
      have u2 : IntKind.i64.wrap (l3 + tmP a3 b0) = l3 + tmP a3 b0 := IntWalk.i64_in _ (by omega)
      go_wp2_with fail
      refine (HPL.out 3 0 3 (1) _ (by simp)).mono ?_
      rintro e w1 ⟨rfl, bb⟩
      replace hr := hr.below bb hr.lt
      replace h4 := h4.below bb h4.lt
      replace h5 := h5.below bb h5.lt
      replace h8 := h8.below bb h8.lt
      replace hbe := hbe.on bb
      clear bb
      go_wp2_with fail
      refine wp_region_noPanic ?_
      refine wp_region_held_drew (S := fun w' : World => w'.cell? ⟨g, 3, none⟩ = some (.int .i32 a3) ∧ w'.cell? ⟨h, 0, none⟩ = some (.int .i32 b0)) (by kernel_rfl) ⟨h4.cell 3, h5.cell 0⟩ (fun hH => ?_)
      refine (show wpAnyH _ _ _ _ _ 15 _ _ _ from ?_)
      try (simp only [Act.put, List.setIfInBounds_toArray, List.set_cons_zero, List.set_cons_succ])
      replace hr := hr.drew
      replace h4 := h4.drew
      replace h5 := h5.drew
      replace h8 := h8.drew
      replace hbe := hbe.drew
      generalize w1.drew = w2 at *
      refine tk 0 hH ?_
      refine tk 1 hH ?_
      refine tk 3 hH ?_
      refine tk 4 hH ?_
      refine tk 5 hH ?_
      refine tk 6 hH ?_
      refine tk 7 hH ?_
      refine tk 8 hH ?_
      refine tk 9 hH ?_
      refine rd2 2 10 (fun K hK => ?hcx30_2) (fun K hK => ?hcx30_10)
      case hcx30_2 =>
       have c0 : w2.cell? ⟨o, 3, none⟩ = some (.int .i64 l3) := h8.cell 3
       go_simp
       try go_wp2_with fail
       clear c0
       refine hK.out _ _ ⟨h4.cell 3, h5.cell 0⟩ (fun hH => ?_)
       clear hK K
       try (simp only [Act.put, List.setIfInBounds_toArray, List.set_cons_zero, List.set_cons_succ])
       refine rd1 10 (fun K hK => ?hcx30a_10)
       case hcx30a_10 =>
        go_simp
        refine (HT30.out _).mono ?_
        rintro e w3 ⟨rfl, bb⟩
        go_wp2_with fail
        replace hr := hr.below bb hr.lt
        replace h4 := h4.below bb h4.lt
        replace h5 := h5.below bb h5.lt
        replace h8 := h8.below bb h8.lt
        replace hbe := hbe.on bb
        clear bb
        refine hK.out _ _ ⟨h4.cell 3, h5.cell 0⟩ (fun hH => ?_)
        clear hK K
        try (simp only [Act.put, List.setIfInBounds_toArray, List.set_cons_zero, List.set_cons_succ])
        refine tk 11 hH ?_
        refine tk 12 hH ?_
        refine tk 13 hH ?_
        refine rd1 14 (fun K hK => ?hcx30as_14)
        case hcx30as_14 =>
         have c0 : w3.cell? ⟨o, 3, none⟩ = some (.int .i64 l3) := h8.cell 3
         have z0 := h8.frozen 3
         go_simp
         try go_wp2_with fail
         clear c0 z0
         have lr := hr.lt
         replace hr := hr.fr o 3 (by omega) (.int .i64 (l3 + tmP a3 b0))
         replace h4 := h4.fr o 3 (by omega) (.int .i64 (l3 + tmP a3 b0))
         replace h5 := h5.fr o 3 (by omega) (.int .i64 (l3 + tmP a3 b0))
         replace h8 : Blk (w3.setCell ⟨o, 3, none⟩ (.int .i64 (l3 + tmP a3 b0))) o 129 #[.int .i64 (l0), .int .i64 (l1), .int .i64 (l2), .int .i64 (l3 + tmP a3 b0)] := by have := h8.set_ 3 (.int .i64 (l3 + tmP a3 b0)); simpa using this
         replace hbe := hbe.sc o 3 (by omega) (.int .i64 (l3 + tmP a3 b0))
         generalize w3.setCell ⟨o, 3, none⟩ (.int .i64 (l3 + tmP a3 b0)) = wz at *
         refine hK.out _ _ ⟨h4.cell 3, h5.cell 0⟩ (fun hH => ?_)
         clear hK K
         try (simp only [Act.put, List.setIfInBounds_toArray, List.set_cons_zero, List.set_cons_succ])
         refine wpAnyH_done ?hrzr30a ?hqzr30a _
         case hrzr30a => kernel_rfl
         refine NoPanic.normal ?_
         go_wp2
         go_roundw
         case rel => exact ⟨1, l0, l1, l2, l3 + tmP a3 b0, rfl, .inr <| .inl ⟨rfl, by have := E.out; omega⟩, hr, h4, h5, h8, hbe⟩
         case measure => simp [intOf]
      case hcx30_10 =>
       go_simp
       refine (HT30.out _).mono ?_
       rintro e w3 ⟨rfl, bb⟩
       go_wp2_with fail
       replace hr := hr.below bb hr.lt
       replace h4 := h4.below bb h4.lt
       replace h5 := h5.below bb h5.lt
       replace h8 := h8.below bb h8.lt
       replace hbe := hbe.on bb
       clear bb
       refine hK.out _ _ ⟨h4.cell 3, h5.cell 0⟩ (fun hH => ?_)
       clear hK K
       try (simp only [Act.put, List.setIfInBounds_toArray, List.set_cons_zero, List.set_cons_succ])
       refine tk 11 hH ?_
       refine rd1 2 (fun K hK => ?hcx30b_2)
       case hcx30b_2 =>
        have c0 : w3.cell? ⟨o, 3, none⟩ = some (.int .i64 l3) := h8.cell 3
        go_simp
        try go_wp2_with fail
        clear c0
        refine hK.out _ _ ⟨h4.cell 3, h5.cell 0⟩ (fun hH => ?_)
        clear hK K
        try (simp only [Act.put, List.setIfInBounds_toArray, List.set_cons_zero, List.set_cons_succ])
        refine tk 12 hH ?_
        refine tk 13 hH ?_
        refine rd1 14 (fun K hK => ?hcx30bs_14)
        case hcx30bs_14 =>
         have c0 : w3.cell? ⟨o, 3, none⟩ = some (.int .i64 l3) := h8.cell 3
         have z0 := h8.frozen 3
         go_simp
         try go_wp2_with fail
         clear c0 z0
         have lr := hr.lt
         replace hr := hr.fr o 3 (by omega) (.int .i64 (l3 + tmP a3 b0))
         replace h4 := h4.fr o 3 (by omega) (.int .i64 (l3 + tmP a3 b0))
         replace h5 := h5.fr o 3 (by omega) (.int .i64 (l3 + tmP a3 b0))
         replace h8 : Blk (w3.setCell ⟨o, 3, none⟩ (.int .i64 (l3 + tmP a3 b0))) o 129 #[.int .i64 (l0), .int .i64 (l1), .int .i64 (l2), .int .i64 (l3 + tmP a3 b0)] := by have := h8.set_ 3 (.int .i64 (l3 + tmP a3 b0)); simpa using this
         replace hbe := hbe.sc o 3 (by omega) (.int .i64 (l3 + tmP a3 b0))
         generalize w3.setCell ⟨o, 3, none⟩ (.int .i64 (l3 + tmP a3 b0)) = wz at *
         refine hK.out _ _ ⟨h4.cell 3, h5.cell 0⟩ (fun hH => ?_)
         clear hK K
         try (simp only [Act.put, List.setIfInBounds_toArray, List.set_cons_zero, List.set_cons_succ])
         refine wpAnyH_done ?hrzr30b ?hqzr30b _
         case hrzr30b => kernel_rfl
         refine NoPanic.normal ?_
         go_wp2
         go_roundw
         case rel => exact ⟨1, l0, l1, l2, l3 + tmP a3 b0, rfl, .inr <| .inl ⟨rfl, by have := E.out; omega⟩, hr, h4, h5, h8, hbe⟩
         case measure => simp [intOf]
     ·have E := hid (show l0 = 0 + tmP a0 b0 - tmP a1 b1 - tmP a2 b2 ∧ l1 = 0 + tmP a0 b1 + tmP a1 b0 + tmP a2 b3 ∧ l2 = 0 + tmP a0 b2 - tmP a1 b3 + tmP a2 b0 ∧ l3 = 0 + tmP a0 b3 + tmP a1 b2 - tmP a2 b1 + tmP a3 b0 from ⟨e0, e1, e2, e3⟩)
      have hbd : (-4294967297 ≤ tmP a3 b1 ∧ tmP a3 b1 ≤ 4294967297) ∧ -17179869188 ≤ l2 ∧ l2 ≤ 17179869188 := by
       have := HB.out
       unfold MulB at this
       omega
      obtain ⟨⟨m1, m2⟩, m3, m4⟩ := hbd
      clear e0 e1 e2 e3 hcut
      have u1 : IntKind.i64.wrap (tmP a3 b1) = tmP a3 b1 := IntWalk.i64_in _ (by omega)
      have u2 : IntKind.i64.wrap (l2 + tmP a3 b1) = l2 + tmP a3 b1 := IntWalk.i64_in _ (by omega)
      go_wp2_with fail
      refine (HPL.out 3 1 2 (1) _ (by simp)).mono ?_
      rintro e w1 ⟨rfl, bb⟩
      replace hr := hr.below bb hr.lt
      replace h4 := h4.below bb h4.lt
      replace h5 := h5.below bb h5.lt
      replace h8 := h8.below bb h8.lt
      replace hbe := hbe.on bb
      clear bb
      go_wp2_with fail
      refine wp_region_noPanic ?_
      refine wp_region_held_drew (S := fun w' : World => w'.cell? ⟨g, 3, none⟩ = some (.int .i32 a3) ∧ w'.cell? ⟨h, 1, none⟩ = some (.int .i32 b1)) (by kernel_rfl) ⟨h4.cell 3, h5.cell 1⟩ (fun hH => ?_)
      refine (show wpAnyH _ _ _ _ _ 15 _ _ _ from ?_)
      try (simp only [Act.put, List.setIfInBounds_toArray, List.set_cons_zero, List.set_cons_succ])
      replace hr := hr.drew
      replace h4 := h4.drew
      replace h5 := h5.drew
      replace h8 := h8.drew
      replace hbe := hbe.drew
      generalize w1.drew = w2 at *
      refine tk 0 hH ?_
      refine tk 1 hH ?_
      refine tk 3 hH ?_
      refine tk 4 hH ?_
      refine tk 5 hH ?_
      refine tk 6 hH ?_
      refine tk 7 hH ?_
      refine tk 8 hH ?_
      refine tk 9 hH ?_
      refine rd2 2 10 (fun K hK => ?hcx31_2) (fun K hK => ?hcx31_10)
      case hcx31_2 =>
       have c0 : w2.cell? ⟨o, 2, none⟩ = some (.int .i64 l2) := h8.cell 2
       go_simp
       try go_wp2_with fail
       clear c0
       refine hK.out _ _ ⟨h4.cell 3, h5.cell 1⟩ (fun hH => ?_)
       clear hK K
       try (simp only [Act.put, List.setIfInBounds_toArray, List.set_cons_zero, List.set_cons_succ])
       refine rd1 10 (fun K hK => ?hcx31a_10)
       case hcx31a_10 =>
        go_simp
        refine (HT31.out _).mono ?_
        rintro e w3 ⟨rfl, bb⟩
        go_wp2_with fail
        replace hr := hr.below bb hr.lt
        replace h4 := h4.below bb h4.lt
        replace h5 := h5.below bb h5.lt
        replace h8 := h8.below bb h8.lt
        replace hbe := hbe.on bb
        clear bb
        refine hK.out _ _ ⟨h4.cell 3, h5.cell 1⟩ (fun hH => ?_)
        clear hK K
        try (simp only [Act.put, List.setIfInBounds_toArray, List.set_cons_zero, List.set_cons_succ])
        refine tk 11 hH ?_
        refine tk 12 hH ?_
        refine tk 13 hH ?_
        refine rd1 14 (fun K hK => ?hcx31as_14)
        case hcx31as_14 =>
         have c0 : w3.cell? ⟨o, 2, none⟩ = some (.int .i64 l2) := h8.cell 2
         have z0 := h8.frozen 2
         go_simp
         try go_wp2_with fail
         clear c0 z0
         have lr := hr.lt
         replace hr := hr.fr o 2 (by omega) (.int .i64 (l2 + tmP a3 b1))
         replace h4 := h4.fr o 2 (by omega) (.int .i64 (l2 + tmP a3 b1))
         replace h5 := h5.fr o 2 (by omega) (.int .i64 (l2 + tmP a3 b1))
         replace h8 : Blk (w3.setCell ⟨o, 2, none⟩ (.int .i64 (l2 + tmP a3 b1))) o 129 #[.int .i64 (l0), .int .i64 (l1), .int .i64 (l2 + tmP a3 b1), .int .i64 (l3)] := by have := h8.set_ 2 (.int .i64 (l2 + tmP a3 b1)); simpa using this
         replace hbe := hbe.sc o 2 (by omega) (.int .i64 (l2 + tmP a3 b1))
         generalize w3.setCell ⟨o, 2, none⟩ (.int .i64 (l2 + tmP a3 b1)) = wz at *
         refine hK.out _ _ ⟨h4.cell 3, h5.cell 1⟩ (fun hH => ?_)
         clear hK K
         try (simp only [Act.put, List.setIfInBounds_toArray, List.set_cons_zero, List.set_cons_succ])
         refine wpAnyH_done ?hrzr31a ?hqzr31a _
         case hrzr31a => kernel_rfl
         refine NoPanic.normal ?_
         go_wp2
         go_roundw
         case rel => exact ⟨2, l0, l1, l2 + tmP a3 b1, l3, rfl, .inr <| .inr <| .inl ⟨rfl, by have := E.out; omega⟩, hr, h4, h5, h8, hbe⟩
         case measure => simp [intOf]
      case hcx31_10 =>
       go_simp
       refine (HT31.out _).mono ?_
       rintro e w3 ⟨rfl, bb⟩
       go_wp2_with fail
       replace hr := hr.below bb hr.lt
       replace h4 := h4.below bb h4.lt
       replace h5 := h5.below bb h5.lt
       replace h8 := h8.below bb h8.lt
       replace hbe := hbe.on bb
       clear bb
       refine hK.out _ _ ⟨h4.cell 3, h5.cell 1⟩ (fun hH => ?_)
       clear hK K
       try (simp only [Act.put, List.setIfInBounds_toArray, List.set_cons_zero, List.set_cons_succ])
       refine tk 11 hH ?_
       refine rd1 2 (fun K hK => ?hcx31b_2)
       case hcx31b_2 =>
        have c0 : w3.cell? ⟨o, 2, none⟩ = some (.int .i64 l2) := h8.cell 2
        go_simp
        try go_wp2_with fail
        clear c0
        refine hK.out _ _ ⟨h4.cell 3, h5.cell 1⟩ (fun hH => ?_)
        clear hK K
        try (simp only [Act.put, List.setIfInBounds_toArray, List.set_cons_zero, List.set_cons_succ])
        refine tk 12 hH ?_
        refine tk 13 hH ?_
        refine rd1 14 (fun K hK => ?hcx31bs_14)
        case hcx31bs_14 =>
         have c0 : w3.cell? ⟨o, 2, none⟩ = some (.int .i64 l2) := h8.cell 2
         have z0 := h8.frozen 2
         go_simp
         try go_wp2_with fail
         clear c0 z0
         have lr := hr.lt
         replace hr := hr.fr o 2 (by omega) (.int .i64 (l2 + tmP a3 b1))
         replace h4 := h4.fr o 2 (by omega) (.int .i64 (l2 + tmP a3 b1))
         replace h5 := h5.fr o 2 (by omega) (.int .i64 (l2 + tmP a3 b1))
         replace h8 : Blk (w3.setCell ⟨o, 2, none⟩ (.int .i64 (l2 + tmP a3 b1))) o 129 #[.int .i64 (l0), .int .i64 (l1), .int .i64 (l2 + tmP a3 b1), .int .i64 (l3)] := by have := h8.set_ 2 (.int .i64 (l2 + tmP a3 b1)); simpa using this
         replace hbe := hbe.sc o 2 (by omega) (.int .i64 (l2 + tmP a3 b1))
         generalize w3.setCell ⟨o, 2, none⟩ (.int .i64 (l2 + tmP a3 b1)) = wz at *
         refine hK.out _ _ ⟨h4.cell 3, h5.cell 1⟩ (fun hH => ?_)
         clear hK K
         try (simp only [Act.put, List.setIfInBounds_toArray, List.set_cons_zero, List.set_cons_succ])
         refine wpAnyH_done ?hrzr31b ?hqzr31b _
         case hrzr31b => kernel_rfl
         refine NoPanic.normal ?_
         go_wp2
         go_roundw
         case rel => exact ⟨2, l0, l1, l2 + tmP a3 b1, l3, rfl, .inr <| .inr <| .inl ⟨rfl, by have := E.out; omega⟩, hr, h4, h5, h8, hbe⟩
         case measure => simp [intOf]
     ·have E := hid (show l0 = 0 + tmP a0 b0 - tmP a1 b1 - tmP a2 b2 ∧ l1 = 0 + tmP a0 b1 + tmP a1 b0 + tmP a2 b3 ∧ l2 = 0 + tmP a0 b2 - tmP a1 b3 + tmP a2 b0 + tmP a3 b1 ∧ l3 = 0 + tmP a0 b3 + tmP a1 b2 - tmP a2 b1 + tmP a3 b0 from ⟨e0, e1, e2, e3⟩)
      have hbd : (-4294967297 ≤ tmP a3 b2 ∧ tmP a3 b2 ≤ 4294967297) ∧ -17179869188 ≤ l1 ∧ l1 ≤ 17179869188 := by
       have := HB.out
       unfold MulB at this
       omega
      obtain ⟨⟨m1, m2⟩, m3, m4⟩ := hbd
      clear e0 e1 e2 e3 hcut
      have u1 : IntKind.i64.wrap (-tmP a3 b2) = -tmP a3 b2 := IntWalk.i64_in _ (by omega)
      have u2 : IntKind.i64.wrap (l1 + -tmP a3 b2) = l1 + -tmP a3 b2 := IntWalk.i64_in _ (by omega)
      go_wp2_with fail
      refine (HPL.out 3 2 1 (-1) _ (by simp)).mono ?_
      rintro e w1 ⟨rfl, bb⟩
      replace hr := hr.below bb hr.lt
      replace h4 := h4.below bb h4.lt
      replace h5 := h5.below bb h5.lt
      replace h8 := h8.below bb h8.lt
      replace hbe := hbe.on bb
      clear bb
      go_wp2_with fail
      refine wp_region_noPanic ?_
      refine wp_region_held_drew (S := fun w' : World => w'.cell? ⟨g, 3, none⟩ = some (.int .i32 a3) ∧ w'.cell? ⟨h, 2, none⟩ = some (.int .i32 b2)) (by kernel_rfl) ⟨h4.cell 3, h5.cell 2⟩ (fun hH => ?_)
      refine (show wpAnyH _ _ _ _ _ 15 _ _ _ from ?_)
      try (simp only [Act.put, List.setIfInBounds_toArray, List.set_cons_zero, List.set_cons_succ])
      replace hr := hr.drew
      replace h4 := h4.drew
      replace h5 := h5.drew
      replace h8 := h8.drew
      replace hbe := hbe.drew
      generalize w1.drew = w2 at *
      refine tk 0 hH ?_
      refine tk 1 hH ?_
      refine tk 3 hH ?_
      refine tk 4 hH ?_
      refine tk 5 hH ?_
      refine tk 6 hH ?_
      refine tk 7 hH ?_
      refine tk 8 hH ?_
      refine tk 9 hH ?_
      refine rd2 2 10 (fun K hK => ?hcx32_2) (fun K hK => ?hcx32_10)
      case hcx32_2 =>
       have c0 : w2.cell? ⟨o, 1, none⟩ = some (.int .i64 l1) := h8.cell 1
       go_simp
       try go_wp2_with fail
       clear c0
       refine hK.out _ _ ⟨h4.cell 3, h5.cell 2⟩ (fun hH => ?_)
       clear hK K
       try (simp only [Act.put, List.setIfInBounds_toArray, List.set_cons_zero, List.set_cons_succ])
       refine rd1 10 (fun K hK => ?hcx32a_10)
       case hcx32a_10 =>
        go_simp
        refine (HT32.out _).mono ?_
        rintro e w3 ⟨rfl, bb⟩
        go_wp2_with fail
        replace hr := hr.below bb hr.lt
        replace h4 := h4.below bb h4.lt
        replace h5 := h5.below bb h5.lt
        replace h8 := h8.below bb h8.lt
        replace hbe := hbe.on bb
        clear bb
        refine hK.out _ _ ⟨h4.cell 3, h5.cell 2⟩ (fun hH => ?_)
        clear hK K
        try (simp only [Act.put, List.setIfInBounds_toArray, List.set_cons_zero, List.set_cons_succ])
        refine tk 11 hH ?_
        refine tk 12 hH ?_
        refine tk 13 hH ?_
        refine rd1 14 (fun K hK => ?hcx32as_14)
        case hcx32as_14 =>
         have c0 : w3.cell? ⟨o, 1, none⟩ = some (.int .i64 l1) := h8.cell 1
         have z0 := h8.frozen 1
         go_simp
         try go_wp2_with fail
         clear c0 z0
         have lr := hr.lt
         replace hr := hr.fr o 1 (by omega) (.int .i64 (l1 + -tmP a3 b2))
         replace h4 := h4.fr o 1 (by omega) (.int .i64 (l1 + -tmP a3 b2))
         replace h5 := h5.fr o 1 (by omega) (.int .i64 (l1 + -tmP a3 b2))
         replace h8 : Blk (w3.setCell ⟨o, 1, none⟩ (.int .i64 (l1 + -tmP a3 b2))) o 129 #[.int .i64 (l0), .int .i64 (l1 + -tmP a3 b2), .int .i64 (l2), .int .i64 (l3)] := by have := h8.set_ 1 (.int .i64 (l1 + -tmP a3 b2)); simpa using this
         replace hbe := hbe.sc o 1 (by omega) (.int .i64 (l1 + -tmP a3 b2))
         generalize w3.setCell ⟨o, 1, none⟩ (.int .i64 (l1 + -tmP a3 b2)) = wz at *
         refine hK.out _ _ ⟨h4.cell 3, h5.cell 2⟩ (fun hH => ?_)
         clear hK K
         try (simp only [Act.put, List.setIfInBounds_toArray, List.set_cons_zero, List.set_cons_succ])
         refine wpAnyH_done ?hrzr32a ?hqzr32a _
         case hrzr32a => kernel_rfl
         refine NoPanic.normal ?_
         go_wp2
         go_roundw
         case rel => exact ⟨3, l0, l1 + -tmP a3 b2, l2, l3, rfl, .inr <| .inr <| .inr <| .inl ⟨rfl, by have := E.out; omega⟩, hr, h4, h5, h8, hbe⟩
         case measure => simp [intOf]
      case hcx32_10 =>
       go_simp
       refine (HT32.out _).mono ?_
       rintro e w3 ⟨rfl, bb⟩
       go_wp2_with fail
       replace hr := hr.below bb hr.lt
       replace h4 := h4.below bb h4.lt
       replace h5 := h5.below bb h5.lt
       replace h8 := h8.below bb h8.lt
       replace hbe := hbe.on bb
       clear bb
       refine hK.out _ _ ⟨h4.cell 3, h5.cell 2⟩ (fun hH => ?_)
       clear hK K
       try (simp only [Act.put, List.setIfInBounds_toArray, List.set_cons_zero, List.set_cons_succ])
       refine tk 11 hH ?_
       refine rd1 2 (fun K hK => ?hcx32b_2)
       case hcx32b_2 =>
        have c0 : w3.cell? ⟨o, 1, none⟩ = some (.int .i64 l1) := h8.cell 1
        go_simp
        try go_wp2_with fail
        clear c0
        refine hK.out _ _ ⟨h4.cell 3, h5.cell 2⟩ (fun hH => ?_)
        clear hK K
        try (simp only [Act.put, List.setIfInBounds_toArray, List.set_cons_zero, List.set_cons_succ])
        refine tk 12 hH ?_
        refine tk 13 hH ?_
        refine rd1 14 (fun K hK => ?hcx32bs_14)
        case hcx32bs_14 =>
         have c0 : w3.cell? ⟨o, 1, none⟩ = some (.int .i64 l1) := h8.cell 1
         have z0 := h8.frozen 1
         go_simp
         try go_wp2_with fail
         clear c0 z0
         have lr := hr.lt
         replace hr := hr.fr o 1 (by omega) (.int .i64 (l1 + -tmP a3 b2))
         replace h4 := h4.fr o 1 (by omega) (.int .i64 (l1 + -tmP a3 b2))
         replace h5 := h5.fr o 1 (by omega) (.int .i64 (l1 + -tmP a3 b2))
         replace h8 : Blk (w3.setCell ⟨o, 1, none⟩ (.int .i64 (l1 + -tmP a3 b2))) o 129 #[.int .i64 (l0), .int .i64 (l1 + -tmP a3 b2), .int .i64 (l2), .int .i64 (l3)] := by have := h8.set_ 1 (.int .i64 (l1 + -tmP a3 b2)); simpa using this
         replace hbe := hbe.sc o 1 (by omega) (.int .i64 (l1 + -tmP a3 b2))
         generalize w3.setCell ⟨o, 1, none⟩ (.int .i64 (l1 + -tmP a3 b2)) = wz at *
         refine hK.out _ _ ⟨h4.cell 3, h5.cell 2⟩ (fun hH => ?_)
         clear hK K
         try (simp only [Act.put, List.setIfInBounds_toArray, List.set_cons_zero, List.set_cons_succ])
         refine wpAnyH_done ?hrzr32b ?hqzr32b _
         case hrzr32b => kernel_rfl
         refine NoPanic.normal ?_
         go_wp2
         go_roundw
         case rel => exact ⟨3, l0, l1 + -tmP a3 b2, l2, l3, rfl, .inr <| .inr <| .inr <| .inl ⟨rfl, by have := E.out; omega⟩, hr, h4, h5, h8, hbe⟩
         case measure => simp [intOf]
     ·have E := hid (show l0 = 0 + tmP a0 b0 - tmP a1 b1 - tmP a2 b2 ∧ l1 = 0 + tmP a0 b1 + tmP a1 b0 + tmP a2 b3 - tmP a3 b2 ∧ l2 = 0 + tmP a0 b2 - tmP a1 b3 + tmP a2 b0 + tmP a3 b1 ∧ l3 = 0 + tmP a0 b3 + tmP a1 b2 - tmP a2 b1 + tmP a3 b0 from ⟨e0, e1, e2, e3⟩)
      have hbd : (-4294967297 ≤ tmP a3 b3 ∧ tmP a3 b3 ≤ 4294967297) ∧ -17179869188 ≤ l0 ∧ l0 ≤ 17179869188 := by
       have := HB.out
       unfold MulB at this
       omega
      obtain ⟨⟨m1, m2⟩, m3, m4⟩ := hbd
      clear e0 e1 e2 e3 hcut
      have u1 : IntKind.i64.wrap (-tmP a3 b3) = -tmP a3 b3 := IntWalk.i64_in _ (by omega)
      have u2 : IntKind.i64.wrap (l0 + -tmP a3 b3) = l0 + -tmP a3 b3 := IntWalk.i64_in _ (by omega)
      go_wp2_with fail
      refine (HPL.out 3 3 0 (-1) _ (by simp)).mono ?_
      rintro e w1 ⟨rfl, bb⟩
      replace hr := hr.below bb hr.lt
      replace h4 := h4.below bb h4.lt
      replace h5 := h5.below bb h5.lt
      replace h8 := h8.below bb h8.lt
      replace hbe := hbe.on bb
      clear bb
      go_wp2_with fail
      refine wp_region_noPanic ?_
      refine wp_region_held_drew (S := fun w' : World => w'.cell? ⟨g, 3, none⟩ = some (.int .i32 a3) ∧ w'.cell? ⟨h, 3, none⟩ = some (.int .i32 b3)) (by kernel_rfl) ⟨h4.cell 3, h5.cell 3⟩ (fun hH => ?_)
      refine (show wpAnyH _ _ _ _ _ 15 _ _ _ from ?_)
      try (simp only [Act.put, List.setIfInBounds_toArray, List.set_cons_zero, List.set_cons_succ])
      replace hr := hr.drew
      replace h4 := h4.drew
      replace h5 := h5.drew
      replace h8 := h8.drew
      replace hbe := hbe.drew
      generalize w1.drew = w2 at *
      refine tk 0 hH ?_
      refine tk 1 hH ?_
      refine tk 3 hH ?_
      refine tk 4 hH ?_
      refine tk 5 hH ?_
      refine tk 6 hH ?_
      refine tk 7 hH ?_
      refine tk 8 hH ?_
      refine tk 9 hH ?_
      refine rd2 2 10 (fun K hK => ?hcx33_2) (fun K hK => ?hcx33_10)
      case hcx33_2 =>
       have c0 : w2.cell? ⟨o, 0, none⟩ = some (.int .i64 l0) := h8.cell 0
       go_simp
       try go_wp2_with fail
       clear c0
       refine hK.out _ _ ⟨h4.cell 3, h5.cell 3⟩ (fun hH => ?_)
       clear hK K
       try (simp only [Act.put, List.setIfInBounds_toArray, List.set_cons_zero, List.set_cons_succ])
       refine rd1 10 (fun K hK => ?hcx33a_10)
       case hcx33a_10 =>
        go_simp
        refine (HT33.out _).mono ?_
        rintro e w3 ⟨rfl, bb⟩
        go_wp2_with fail
        replace hr := hr.below bb hr.lt
        replace h4 := h4.below bb h4.lt
        replace h5 := h5.below bb h5.lt
        replace h8 := h8.below bb h8.lt
        replace hbe := hbe.on bb
        clear bb
        refine hK.out _ _ ⟨h4.cell 3, h5.cell 3⟩ (fun hH => ?_)
        clear hK K
        try (simp only [Act.put, List.setIfInBounds_toArray, List.set_cons_zero, List.set_cons_succ])
        refine tk 11 hH ?_
        refine tk 12 hH ?_
        refine tk 13 hH ?_
        refine rd1 14 (fun K hK => ?hcx33as_14)
        case hcx33as_14 =>
         have c0 : w3.cell? ⟨o, 0, none⟩ = some (.int .i64 l0) := h8.cell 0
         have z0 := h8.frozen 0
         go_simp
         try go_wp2_with fail
         clear c0 z0
         have lr := hr.lt
         replace hr := hr.fr o 0 (by omega) (.int .i64 (l0 + -tmP a3 b3))
         replace h4 := h4.fr o 0 (by omega) (.int .i64 (l0 + -tmP a3 b3))
         replace h5 := h5.fr o 0 (by omega) (.int .i64 (l0 + -tmP a3 b3))
         replace h8 : Blk (w3.setCell ⟨o, 0, none⟩ (.int .i64 (l0 + -tmP a3 b3))) o 129 #[.int .i64 (l0 + -tmP a3 b3), .int .i64 (l1), .int .i64 (l2), .int .i64 (l3)] := by have := h8.set_ 0 (.int .i64 (l0 + -tmP a3 b3)); simpa using this
         replace hbe := hbe.sc o 0 (by omega) (.int .i64 (l0 + -tmP a3 b3))
         generalize w3.setCell ⟨o, 0, none⟩ (.int .i64 (l0 + -tmP a3 b3)) = wz at *
         refine hK.out _ _ ⟨h4.cell 3, h5.cell 3⟩ (fun hH => ?_)
         clear hK K
         try (simp only [Act.put, List.setIfInBounds_toArray, List.set_cons_zero, List.set_cons_succ])
         refine wpAnyH_done ?hrzr33a ?hqzr33a _
         case hrzr33a => kernel_rfl
         refine NoPanic.normal ?_
         go_wp2
         go_roundw
         case rel => exact ⟨4, l0 + -tmP a3 b3, l1, l2, l3, rfl, .inr <| .inr <| .inr <| .inr <| ⟨rfl, by have := E.out; omega⟩, hr, h4, h5, h8, hbe⟩
         case measure => simp [intOf]
      case hcx33_10 =>
       go_simp
       refine (HT33.out _).mono ?_
       rintro e w3 ⟨rfl, bb⟩
       go_wp2_with fail
       replace hr := hr.below bb hr.lt
       replace h4 := h4.below bb h4.lt
       replace h5 := h5.below bb h5.lt
       replace h8 := h8.below bb h8.lt
       replace hbe := hbe.on bb
       clear bb
       refine hK.out _ _ ⟨h4.cell 3, h5.cell 3⟩ (fun hH => ?_)
       clear hK K
       try (simp only [Act.put, List.setIfInBounds_toArray, List.set_cons_zero, List.set_cons_succ])
       refine tk 11 hH ?_
       refine rd1 2 (fun K hK => ?hcx33b_2)
       case hcx33b_2 =>
        have c0 : w3.cell? ⟨o, 0, none⟩ = some (.int .i64 l0) := h8.cell 0
        go_simp
        try go_wp2_with fail
        clear c0
        refine hK.out _ _ ⟨h4.cell 3, h5.cell 3⟩ (fun hH => ?_)
        clear hK K
        try (simp only [Act.put, List.setIfInBounds_toArray, List.set_cons_zero, List.set_cons_succ])
        refine tk 12 hH ?_
        refine tk 13 hH ?_
        refine rd1 14 (fun K hK => ?hcx33bs_14)
        case hcx33bs_14 =>
         have c0 : w3.cell? ⟨o, 0, none⟩ = some (.int .i64 l0) := h8.cell 0
         have z0 := h8.frozen 0
         go_simp
         try go_wp2_with fail
         clear c0 z0
         have lr := hr.lt
         replace hr := hr.fr o 0 (by omega) (.int .i64 (l0 + -tmP a3 b3))
         replace h4 := h4.fr o 0 (by omega) (.int .i64 (l0 + -tmP a3 b3))
         replace h5 := h5.fr o 0 (by omega) (.int .i64 (l0 + -tmP a3 b3))
         replace h8 : Blk (w3.setCell ⟨o, 0, none⟩ (.int .i64 (l0 + -tmP a3 b3))) o 129 #[.int .i64 (l0 + -tmP a3 b3), .int .i64 (l1), .int .i64 (l2), .int .i64 (l3)] := by have := h8.set_ 0 (.int .i64 (l0 + -tmP a3 b3)); simpa using this
         replace hbe := hbe.sc o 0 (by omega) (.int .i64 (l0 + -tmP a3 b3))
         generalize w3.setCell ⟨o, 0, none⟩ (.int .i64 (l0 + -tmP a3 b3)) = wz at *
         refine hK.out _ _ ⟨h4.cell 3, h5.cell 3⟩ (fun hH => ?_)
         clear hK K
         try (simp only [Act.put, List.setIfInBounds_toArray, List.set_cons_zero, List.set_cons_succ])
         refine wpAnyH_done ?hrzr33b ?hqzr33b _
         case hrzr33b => kernel_rfl
         refine NoPanic.normal ?_
         go_wp2
         go_roundw
         case rel => exact ⟨4, l0 + -tmP a3 b3, l1, l2, l3, rfl, .inr <| .inr <| .inr <| .inr <| ⟨rfl, by have := E.out; omega⟩, hr, h4, h5, h8, hbe⟩
         case measure => simp [intOf]
     ·have E := hid (show l0 = 0 + tmP a0 b0 - tmP a1 b1 - tmP a2 b2 - tmP a3 b3 ∧ l1 = 0 + tmP a0 b1 + tmP a1 b0 + tmP a2 b3 - tmP a3 b2 ∧ l2 = 0 + tmP a0 b2 - tmP a1 b3 + tmP a2 b0 + tmP a3 b1 ∧ l3 = 0 + tmP a0 b3 + tmP a1 b2 - tmP a2 b1 + tmP a3 b0 from ⟨e0, e1, e2, e3⟩)
      clear e0 e1 e2 e3 hcut
      go_wp2
      go_roundw
      case rel => exact ⟨4, l0, l1, l2, l3, rfl, .inr <| .inr <| .inr <| .inr <| ⟨rfl, E.out⟩, hr, h4, h5, h8, hbe⟩
      case measure => simp [intOf]
   ·have q0 : l0 = mulW a0 a1 a2 a3 b0 b1 b2 b3 := by unfold mulW; omega
    have q1 : l1 = mulX a0 a1 a2 a3 b0 b1 b2 b3 := by unfold mulX; omega
    have q2 : l2 = mulY a0 a1 a2 a3 b0 b1 b2 b3 := by unfold mulY; omega
    have q3 : l3 = mulZ a0 a1 a2 a3 b0 b1 b2 b3 := by unfold mulZ; omega
    clear e0 e1 e2 e3 hcut
    subst q0 q1 q2 q3
    have c0 : wr.cell? ⟨o, 0, none⟩ = some (.int .i64 (mulW a0 a1 a2 a3 b0 b1 b2 b3)) := h8.cell 0
    have c1 : wr.cell? ⟨o, 1, none⟩ = some (.int .i64 (mulX a0 a1 a2 a3 b0 b1 b2 b3)) := h8.cell 1
    have c2 : wr.cell? ⟨o, 2, none⟩ = some (.int .i64 (mulY a0 a1 a2 a3 b0 b1 b2 b3)) := h8.cell 2
    have c3 : wr.cell? ⟨o, 3, none⟩ = some (.int .i64 (mulZ a0 a1 a2 a3 b0 b1 b2 b3)) := h8.cell 3
    go_wp2_with fail
    refine (HC.out _).mono ?_
    rintro e w2 ⟨rfl, bb⟩
    replace hr := hr.below bb hr.lt
    replace hbe := hbe.on bb
    clear bb c0 c1 c2 c3 h4 h5 h8
    generalize clampP (mulW a0 a1 a2 a3 b0 b1 b2 b3) = x0 at *
    generalize clampP (mulX a0 a1 a2 a3 b0 b1 b2 b3) = x1 at *
    generalize clampP (mulY a0 a1 a2 a3 b0 b1 b2 b3) = x2 at *
    generalize clampP (mulZ a0 a1 a2 a3 b0 b1 b2 b3) = x3 at *
    generalize cutC (mulW a0 a1 a2 a3 b0 b1 b2 b3) + cutC (mulX a0 a1 a2 a3 b0 b1 b2 b3) + cutC (mulY a0 a1 a2 a3 b0 b1 b2 b3) + cutC (mulZ a0 a1 a2 a3 b0 b1 b2 b3) = nn at *
    have y0 : w2.cell? ⟨w.heap.size + 1 + 1, 0, none⟩ = some (.int .i32 0) := hr.cell 0
    have y1 : w2.cell? ⟨w.heap.size + 1 + 1, 1, none⟩ = some (.int .i32 0) := hr.cell 1
    have y2 : w2.cell? ⟨w.heap.size + 1 + 1, 2, none⟩ = some (.int .i32 0) := hr.cell 2
    have y3 : w2.cell? ⟨w.heap.size + 1 + 1, 3, none⟩ = some (.int .i32 0) := hr.cell 3
    have v0 := hr.frozen 0
    have v1 := hr.frozen 1
    have v2 := hr.frozen 2
    have v3 := hr.frozen 3
    go_wp2
    have hb9 := ((((hr.set_ 0 (.int .i32 x0)).set_ 1 (.int .i32 x1)).set_ 2 (.int .i32 x2)).set_ 3 (.int .i32 x3))
    have hbf : Below w.heap.size w ((((w2.setCell ⟨w.heap.size + 1 + 1, 0, none⟩ (.int .i32 x0)).setCell ⟨w.heap.size + 1 + 1, 1, none⟩ (.int .i32 x1)).setCell ⟨w.heap.size + 1 + 1, 2, none⟩ (.int .i32 x2)).setCell ⟨w.heap.size + 1 + 1, 3, none⟩ (.int .i32 x3)) := ((((hbe.setCell (by dsimp only; omega) _).setCell (by dsimp only; omega) _).setCell (by dsimp only; omega) _).setCell (by dsimp only; omega) _)
    generalize ((((w2.setCell ⟨w.heap.size + 1 + 1, 0, none⟩ (.int .i32 x0)).setCell ⟨w.heap.size + 1 + 1, 1, none⟩ (.int .i32 x1)).setCell ⟨w.heap.size + 1 + 1, 2, none⟩ (.int .i32 x2)).setCell ⟨w.heap.size + 1 + 1, 3, none⟩ (.int .i32 x3)) = W9 at *
    have f0 : W9.cell? ⟨w.heap.size + 1 + 1, 0, none⟩ = some (.int .i32 x0) := hb9.cell 0
    have f1 : W9.cell? ⟨w.heap.size + 1 + 1, 1, none⟩ = some (.int .i32 x1) := hb9.cell 1
    have f2 : W9.cell? ⟨w.heap.size + 1 + 1, 2, none⟩ = some (.int .i32 x2) := hb9.cell 2
    have f3 : W9.cell? ⟨w.heap.size + 1 + 1, 3, none⟩ = some (.int .i32 x3) := hb9.cell 3
    clear hb9 hr y0 y1 y2 y3
    simp [bodyPost, results, Tryz.results90, go_sem, f0, f1, f2, f3]
    exact hM.out _ _ rfl hbf
end Go.Proofs.YtgmepohfkpncmaaGreat
