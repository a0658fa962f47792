/- Chapter 13: the angle of two numbers. -/
import Derived.Test.YtfogjfmpgfcolaaTurnJ
namespace Go.Proofs.Ytfogjfmpgfcolaa
open Go.RowKit
set_option linter.unusedVariables false
set_option linter.unusedSimpArgs false

def farM (x y : Int) : Int := max (absP x) (absP y)
theorem run_max4 {P : Program} (ts : Array TypeId) (t : TypeId) (x y : Int) (w : World) : (Builtin.max_ ts t #[.int .i64 x, .int .i64 (-x), .int .i64 y, .int .i64 (-y)]).run P w = .ok (.int .i64 (farM x y)) w := by
  have e : farM x y = (if -y > (if y > (if -x > x then -x else x) then y else (if -x > x then -x else x)) then -y else (if y > (if -x > x then -x else x) then y else (if -x > x then -x else x))) := by
    unfold farM absP
    repeat' split
    all_goals omega
  rw [e]
  simp [Builtin.max_, Builtin.max2]
def growF : Nat → Int → Int → Int × Int
  | 0, x, y => (x, y)
  | n + 1, x, y => if farM x y < 1073741824 then growF n (2 * x) (2 * y) else (x, y)
theorem far_twice (x y : Int) : farM (2 * x) (2 * y) = 2 * farM x y := by
  unfold farM absP
  repeat' split
  all_goals omega
theorem far_bd (x y : Int) (h : ¬ (x = 0 ∧ y = 0)) (hx : I32 x) (hy : I32 y) : 1 ≤ farM x y ∧ farM x y ≤ 2147483648 := by
  unfold farM absP
  unfold I32 at *
  repeat' split
  all_goals omega
theorem far_le (x y : Int) : (-farM x y ≤ x ∧ x ≤ farM x y) ∧ (-farM x y ≤ y ∧ y ≤ farM x y) := by
  unfold farM absP
  repeat' split
  all_goals omega
theorem grow_done (n : Nat) (x y : Int) (h : ¬ (farM x y < 1073741824)) : growF n x y = (x, y) := by
  cases n with
  | zero => rfl
  | succ n => simp only [growF, if_neg h]
theorem grow_more (n : Nat) (x y : Int) (h : farM x y < 1073741824) : growF (n + 1) x y = growF n (2 * x) (2 * y) := by simp only [growF, if_pos h]
theorem grow_bd : ∀ (n : Nat) (x y : Int), farM x y ≤ 2147483648 → farM (growF n x y).1 (growF n x y).2 ≤ 2147483648
  | 0, x, y, h => h
  | n + 1, x, y, h => by
    simp only [growF]
    split
    · next g => exact grow_bd n _ _ (by rw [far_twice]; omega)
    · exact h
theorem i32_wrap (n : Int) : IntKind.i32.wrap n = (n + 2147483648) % 4294967296 - 2147483648 := by simp [IntKind.wrap_i32]

theorem t_grown (x y : Int) (w : World) (hx : I32 x) (hy : I32 y) (hxy : ¬ (x = 0 ∧ y = 0)) :
    Calls Try.prog 47 #[.int .i64 x, .int .i64 y] w fun e w' => e = .returned (.tuple #[.int .i64 (growF 31 x y).1, .int .i64 (growF 31 x y).2]) ∧ w = w' := by
  have u1 : IntKind.i64.wrap (-x) = -x := IntWalk.i64_in _ (by unfold I32 at *; omega)
  have u2 : IntKind.i64.wrap (-y) = -y := IntWalk.i64_in _ (by unfold I32 at *; omega)
  have hm := fun w => run_max4 (P := Try.prog) #[2, 2, 2, 2] 2 x y w
  have hM := far_bd x y hxy hx hy
  obtain ⟨M, hMM⟩ : ∃ M, farM x y = M := ⟨_, rfl⟩
  rw [hMM] at hm hM
  have HM := hid hMM
  clear hMM hx hy hxy
  go_enter Try.func47, Try.ntmps47
  go_wp2_with fail
  clear hm u1 u2
  go_loop [0, 1, 6] (fun px py pm => ∃ (X Y N : Int) (f : Nat), px = .int .i64 X ∧ py = .int .i64 Y ∧ pm = .int .i64 N ∧ Hid (farM X Y = N) ∧ 1 ≤ N ∧ N ≤ 2147483648 ∧ Hid (2147483648 ≤ N * 2 ^ f) ∧ Hid (growF 31 x y = growF f X Y)) (fun _ _ n => (2147483648 - intOf n).toNat)
  case atStart =>
    have H3 : Hid (2147483648 ≤ M * 2 ^ 31) := hid (by
      have e : (2:Int) ^ 31 = 2147483648 := by decide +kernel
      rw [e]
      omega)
    exact ⟨x, y, M, 31, rfl, rfl, rfl, HM, hM.1, hM.2, H3, rfl⟩
  case round =>
    obtain ⟨X, Y, N, f, rfl, rfl, rfl, hf, h1, h2, h3, h4⟩ := hrel
    by_cases g : N < 1073741824
    · have hl := far_le X Y
      rw [hf.out] at hl
      have v1 : IntKind.i64.wrap (2 * X) = 2 * X := IntWalk.i64_in _ (by omega)
      have v2 : IntKind.i64.wrap (2 * Y) = 2 * Y := IntWalk.i64_in _ (by omega)
      have v3 : IntKind.i64.wrap (N * 2) = N * 2 := IntWalk.i64_in _ (by omega)
      obtain ⟨f', rfl⟩ : ∃ f', f = f' + 1 := by
        rcases f with _ | f'
        · have := h3.out; simp at this; omega
        · exact ⟨f', rfl⟩
      have HG : Hid (growF 31 x y = growF f' (2 * X) (2 * Y)) := hid (by rw [h4.out, grow_more _ _ _ (by rw [hf.out]; exact g)])
      have HF : Hid (farM (2 * X) (2 * Y) = N * 2) := hid (by rw [far_twice, hf.out]; omega)
      have H3 : Hid (2147483648 ≤ N * 2 * 2 ^ f') := hid (by have := h3.out; rw [Int.pow_succ] at this; rw [Int.mul_assoc, Int.mul_comm 2]; exact this)
      clear hl h3 h4 hf
      go_wp2
      go_round
      case rel => exact ⟨2 * X, 2 * Y, N * 2, f', rfl, rfl, rfl, HF, by omega, by omega, H3, HG⟩
      case measure => simp [intOf]; omega
    · have HG : Hid (growF 31 x y = (X, Y)) := hid (by rw [h4.out, grow_done _ _ _ (by rw [hf.out]; exact g)])
      clear h3 h4 hf
      go_wp2
      go_ret2
      exact ⟨by rw [HG.out]; rfl, rfl⟩

def atanV (y x : Int) : Int := (iterP stepA 31 (absP (growF 31 x y).1 * 1048576, (growF 31 x y).2 * 1048576, 0)).2.2
def atanP (y x : Int) : Int := if x = 0 ∧ y = 0 then 0 else if x < 0 then IntKind.i32.wrap (2147483648 - atanV y x) else IntKind.i32.wrap (atanV y x)
theorem wrap32_is (n : Int) : IntKind.i32.wrap n = wrap32 n := by simp [IntKind.wrap_i32, wrap32]
theorem start_A (y x : Int) (hx : I32 x) (hy : I32 y) (hxy : ¬ (x = 0 ∧ y = 0)) : Near 0 (absP (growF 31 x y).1 * 1048576, (growF 31 x y).2 * 1048576, 0) := by
  have h := grow_bd 31 x y (far_bd x y hxy hx hy).2
  obtain ⟨h1, h2⟩ := far_le (growF 31 x y).1 (growF 31 x y).2
  generalize (growF 31 x y).1 = p at *
  generalize (growF 31 x y).2 = q at *
  have e : bnP 0 = 2251799813685248 := rfl
  simp only [Near]
  rw [e]
  unfold absP
  split <;> omega
theorem t_Atan (y x : Int) (w : World) (hy : I32 y) (hx : I32 x) :
    Calls Try.prog 20 #[.int .i32 y, .int .i32 x] w fun e w' => e = .returned (.int .i32 (atanP y x)) ∧ Below w.heap.size w w' := by
  by_cases hxy : x = 0 ∧ y = 0
  · obtain ⟨rfl, rfl⟩ := hxy
    go_enter Try.func20, Try.ntmps20
    go_wp2
    go_ret
    exact ⟨rfl, Below.refl _ w⟩
  have HG := hid fun w => t_grown x y w hx hy hxy
  have hN := start_A y x hx hy hxy
  have hgb := grow_bd 31 x y (far_bd x y hxy hx hy).2
  have hV : Hid (atanP y x = if x < 0 then IntKind.i32.wrap (2147483648 - atanV y x) else IntKind.i32.wrap (atanV y x)) := hid (by unfold atanP; rw [if_neg hxy])
  have hA : Hid (atanV y x = (iterP stepA 31 (absP (growF 31 x y).1 * 1048576, (growF 31 x y).2 * 1048576, 0)).2.2) := rfl
  have hn := near_A _ hN 31 (by omega)
  have HR := hid fun w => t_run_A _ _ _ w hN
  generalize atanV y x = V at *
  generalize growF 31 x y = G at *
  obtain ⟨p, q⟩ := G
  simp only at HG HR hN hA hn hgb
  obtain ⟨⟨X, Y, Z⟩, HI⟩ : ∃ R, Hid (iterP stepA 31 (absP p * 1048576, q * 1048576, 0) = R) := ⟨_, rfl⟩
  rw [HI.out] at HR hn
  have HZ : Hid (V = Z) := hid (by rw [hA.out, HI.out])
  have hzb := hn.2.2
  simp only at HR hzb
  obtain ⟨l1, l2⟩ := far_le p q
  have ep : max p (-p) = absP p := by unfold absP; split <;> omega
  have v0 : wrap64 (-p) = -p := IntWalk.wrap64_in _ (by omega)
  have v1 : wrap64 (absP p * 1048576) = absP p * 1048576 := IntWalk.wrap64_in _ (by have := hN.1; simp only [show bnP 0 = 2251799813685248 from rfl] at this; omega)
  have v2 : wrap64 (q * 1048576) = q * 1048576 := IntWalk.wrap64_in _ (by omega)
  have v3 : wrap64 (2147483648 - Z) = 2147483648 - Z := IntWalk.wrap64_in _ (by omega)
  have v4 : IntKind.i64.wrap (2147483648 - Z) = 2147483648 - Z := IntWalk.i64_in _ (by omega)
  have u1 : IntKind.i64.wrap x = x := IntWalk.i64_in _ (by unfold I32 at *; omega)
  have u2 : IntKind.i64.wrap y = y := IntWalk.i64_in _ (by unfold I32 at *; omega)
  have hp : Blk (w.alloc (.cells #[.int .i64 (absP p * 1048576), .int .i64 (q * 1048576), .int .i64 0] 70)) w.heap.size 70 #[.int .i64 (absP p * 1048576), .int .i64 (q * 1048576), .int .i64 0] := Blk.new w _ _
  have hb : Below w.heap.size w (w.alloc (.cells #[.int .i64 (absP p * 1048576), .int .i64 (q * 1048576), .int .i64 0] 70)) := (Below.refl _ w).alloc (Nat.le_refl _) _
  have HP := hid hp
  have HB := hid hb
  clear hp hb hN hn hzb l1 l2 hgb hA HI
  rcases (show x < 0 ∨ x = 0 ∨ 0 < x by omega) with hx0 | hx0 | hx0
  · have hx1 : ¬ (x = 0) := by omega
    have hV2 : Hid (atanP y x = IntKind.i32.wrap (2147483648 - Z)) := hid (by rw [hV.out, if_pos hx0, HZ.out])
    clear hV HZ hxy
    go_enter Try.func20, Try.ntmps20
    go_wp2_with fail
    refine (HG.out _).mono ?_
    rintro e w' ⟨rfl, rfl⟩
    go_wp2_with fail
    refine (HR.out _).mono ?_
    rintro e w2 ⟨rfl, b2⟩
    have hp := HP.out.below b2 HP.out.lt
    have hb := HB.out.trans (b2.mono HB.out.size)
    have hf := ((hp.set_ 0 (.int .i64 X)).set_ 1 (.int .i64 Y)).set_ 2 (.int .i64 Z)
    have hbf := ((hb.setCell (p := ⟨w.heap.size, 0, none⟩) (by dsimp only; omega) (.int .i64 X)).setCell (p := ⟨w.heap.size, 1, none⟩) (by dsimp only; omega) (.int .i64 Y)).setCell (p := ⟨w.heap.size, 2, none⟩) (by dsimp only; omega) (.int .i64 Z)
    have d0 := hp.cell 0
    have d1 := hp.cell 1
    have d2 := hp.cell 2
    have z0 := hp.frozen 0
    have z1 := hp.frozen 1
    have z2 := hp.frozen 2
    simp only [List.getElem?_toArray, List.getElem?_cons_zero, List.getElem?_cons_succ] at d0 d1 d2
    go_wp2
    go_ret
    exact ⟨by rw [hV2.out]; simp [wrap32_is], hbf⟩
  · obtain rfl := hx0
    have hy1 : ¬ (y = 0) := fun e => hxy ⟨rfl, e⟩
    have hV2 : Hid (atanP y 0 = IntKind.i32.wrap Z) := hid (by rw [hV.out, if_neg (by omega), HZ.out])
    clear hV HZ hxy
    go_enter Try.func20, Try.ntmps20
    go_wp2_with fail
    refine (HG.out _).mono ?_
    rintro e w' ⟨rfl, rfl⟩
    go_wp2_with fail
    refine (HR.out _).mono ?_
    rintro e w2 ⟨rfl, b2⟩
    have hp := HP.out.below b2 HP.out.lt
    have hb := HB.out.trans (b2.mono HB.out.size)
    have hbf := ((hb.setCell (p := ⟨w.heap.size, 0, none⟩) (by dsimp only; omega) (.int .i64 X)).setCell (p := ⟨w.heap.size, 1, none⟩) (by dsimp only; omega) (.int .i64 Y)).setCell (p := ⟨w.heap.size, 2, none⟩) (by dsimp only; omega) (.int .i64 Z)
    have d0 := hp.cell 0
    have d1 := hp.cell 1
    have d2 := hp.cell 2
    have z0 := hp.frozen 0
    have z1 := hp.frozen 1
    have z2 := hp.frozen 2
    simp only [List.getElem?_toArray, List.getElem?_cons_zero, List.getElem?_cons_succ] at d0 d1 d2
    go_wp2
    go_ret
    exact ⟨by rw [hV2.out]; simp [wrap32_is], hbf⟩
  · have hx1 : ¬ (x = 0) := by omega
    have hx2 : ¬ (x < 0) := by omega
    have hV2 : Hid (atanP y x = IntKind.i32.wrap Z) := hid (by rw [hV.out, if_neg hx2, HZ.out])
    clear hV HZ hxy
    go_enter Try.func20, Try.ntmps20
    go_wp2_with fail
    refine (HG.out _).mono ?_
    rintro e w' ⟨rfl, rfl⟩
    go_wp2_with fail
    refine (HR.out _).mono ?_
    rintro e w2 ⟨rfl, b2⟩
    have hp := HP.out.below b2 HP.out.lt
    have hb := HB.out.trans (b2.mono HB.out.size)
    have hbf := ((hb.setCell (p := ⟨w.heap.size, 0, none⟩) (by dsimp only; omega) (.int .i64 X)).setCell (p := ⟨w.heap.size, 1, none⟩) (by dsimp only; omega) (.int .i64 Y)).setCell (p := ⟨w.heap.size, 2, none⟩) (by dsimp only; omega) (.int .i64 Z)
    have d0 := hp.cell 0
    have d1 := hp.cell 1
    have d2 := hp.cell 2
    have z0 := hp.frozen 0
    have z1 := hp.frozen 1
    have z2 := hp.frozen 2
    simp only [List.getElem?_toArray, List.getElem?_cons_zero, List.getElem?_cons_succ] at d0 d1 d2
    go_wp2
    go_ret
    exact ⟨by rw [hV2.out]; simp [wrap32_is], hbf⟩
end Go.Proofs.Ytfogjfmpgfcolaa
