/- Chapter 13: a step. -/
import Derived.Test.YtgmepohfkpncmaaGreatTurnE
import Derived.Test.YtgmepohfkpncmaaGreatUnitF
import Derived.Test.YtgmepohfkpncmaaGreatQuatJ
namespace Go.Proofs.YtgmepohfkpncmaaGreat
open Go.RowKit
set_option linter.unusedVariables false
set_option linter.unusedSimpArgs false

theorem below_on {w0 w w' : World} (h : Below w0.heap.size w0 w) (k : Below w.heap.size w w') : Below w0.heap.size w0 w' := h.trans (k.mono h.size)
def stH (r dt : Int) : Int := roundP (r * dt) 3
def stP (j : Nat) (q0 q1 q2 q3 r0 r1 r2 dt : Int) : Int :=
 clampP ((match j with
  | 0 => mulW
  | 1 => mulX
  | 2 => mulY
  | _ => mulZ) q0 q1 q2 q3 1073741824 (clampP (stH r0 dt)) (clampP (stH r1 dt)) (clampP (stH r2 dt)))
def stL (q0 q1 q2 q3 r0 r1 r2 dt : Int) : List Int := [stP 0 q0 q1 q2 q3 r0 r1 r2 dt, stP 1 q0 q1 q2 q3 r0 r1 r2 dt, stP 2 q0 q1 q2 q3 r0 r1 r2 dt, stP 3 q0 q1 q2 q3 r0 r1 r2 dt]
def stN (q0 q1 q2 q3 r0 r1 r2 dt : Int) : Int := (cutC (stH r0 dt) + cutC (stH r1 dt) + cutC (stH r2 dt)) + (cutC (mulW q0 q1 q2 q3 1073741824 (clampP (stH r0 dt)) (clampP (stH r1 dt)) (clampP (stH r2 dt))) + cutC (mulX q0 q1 q2 q3 1073741824 (clampP (stH r0 dt)) (clampP (stH r1 dt)) (clampP (stH r2 dt))) + cutC (mulY q0 q1 q2 q3 1073741824 (clampP (stH r0 dt)) (clampP (stH r1 dt)) (clampP (stH r2 dt))) + cutC (mulZ q0 q1 q2 q3 1073741824 (clampP (stH r0 dt)) (clampP (stH r1 dt)) (clampP (stH r2 dt))))
def stO (L : List Int) (p z : Int) : Int := if 0 < farP L then makeP L p else z
def Steps (q0 q1 q2 q3 r0 r1 r2 dt : Int) (w : World) (e : Ending) (w' : World) : Prop :=
 e = .returned (.tuple #[.agg #[.int .i32 (stO (stL q0 q1 q2 q3 r0 r1 r2 dt) (stP 0 q0 q1 q2 q3 r0 r1 r2 dt) 1073741824), .int .i32 (stO (stL q0 q1 q2 q3 r0 r1 r2 dt) (stP 1 q0 q1 q2 q3 r0 r1 r2 dt) 0), .int .i32 (stO (stL q0 q1 q2 q3 r0 r1 r2 dt) (stP 2 q0 q1 q2 q3 r0 r1 r2 dt) 0), .int .i32 (stO (stL q0 q1 q2 q3 r0 r1 r2 dt) (stP 3 q0 q1 q2 q3 r0 r1 r2 dt) 0)], .int .i64 (stN q0 q1 q2 q3 r0 r1 r2 dt + (if 0 < farP (stL q0 q1 q2 q3 r0 r1 r2 dt) then 0 else 1))]) ∧ Below w.heap.size w w'
theorem st_bd (r dt : Int) (hr : I32 r) (hd : I32 dt) : I64 (r * dt) ∧ I64 (stH r dt) := by
 have hm := mul_bd r dt hr hd
 refine ⟨by unfold I64; omega, ?_⟩
 unfold stH roundP fracP
 have e : (2 : Int) ^ (max (0:Int) (min 3 62)).toNat = 8 := by decide +kernel
 rw [e]
 generalize r * dt = n at *
 unfold overP absP I64
 simp only [show ¬ ((8 : Int) = 0) by omega, show ¬ ((8 : Int) < 0) by omega, if_false]
 split <;> omega

set_option maxHeartbeats 4000000 in
theorem c_Step0 (gr gd : Nat) (r0 r1 r2 dt : Int) (w : World) (ir0 : I32 r0) (ir1 : I32 r1) (ir2 : I32 r2) (idt : I32 dt) (hr : Blk w gr 79 #[.int .i32 r0, .int .i32 r1, .int .i32 r2]) (hd : Blk w gd 21 #[.int .i32 dt]) :
  Calls Tryz.prog 89 #[.int .i64 0, .pointer (some ⟨gr, 0, none⟩), .pointer (some ⟨gd, 0, none⟩)] w fun e w' => e = .returned (.int .i64 (stH r0 dt)) ∧ Below w.heap.size w w' := by
 have HR := hid fun w => fx_Round (r0 * dt) 3 w (st_bd r0 dt ir0 idt).1 (by unfold I64; omega)
 have HS : Hid (stH r0 dt = roundP (r0 * dt) 3) := rfl
 have hm := mul_bd r0 dt ir0 idt
 have u0 : IntKind.i64.wrap r0 = r0 := IntWalk.i64_in _ (by unfold I32 at *; omega)
 have u1 : IntKind.i64.wrap dt = dt := IntWalk.i64_in _ (by unfold I32 at *; omega)
 have u2 : IntKind.i64.wrap (r0 * dt) = r0 * dt := IntWalk.i64_in _ (by omega)
 have hb : Below w.heap.size w w := Below.refl _ w
 generalize roundP (r0 * dt) 3 = x at *
 clear hm ir0 ir1 ir2 idt
 go_enter Tryz.func89, Tryz.ntmps89
 go_wp2_with fail
 refine wp_region_noPanic ?_
 refine wp_region_held_drew (S := (fun w' : World => w'.cell? ⟨gr, 0, none⟩ = some (.int .i32 r0) ∧ w'.cell? ⟨gr, 1, none⟩ = some (.int .i32 r1) ∧ w'.cell? ⟨gr, 2, none⟩ = some (.int .i32 r2) ∧ w'.cell? ⟨gd, 0, none⟩ = some (.int .i32 dt))) (by kernel_rfl) ⟨hr.cell 0, hr.cell 1, hr.cell 2, hd.cell 0⟩ (fun hH => ?_)
 refine (show wpAnyH _ _ _ _ _ 9 _ _ _ from ?_)
 try (simp only [Act.put, List.setIfInBounds_toArray, List.set_cons_zero, List.set_cons_succ])
 replace hr := hr.drew
 replace hd := hd.drew
 replace hb := hb.drew
 generalize w.drew = W1 at *
 refine tk 0 hH ?_
 refine tk 1 hH ?_
 refine tk 2 hH ?_
 refine tk 3 hH ?_
 refine tk 4 hH ?_
 refine tk 5 hH ?_
 refine tk 6 hH ?_
 refine rd1 7 (fun K hK => ?_)
 go_simp
 refine (HR.out _).mono ?_
 rintro e w2x ⟨rfl, b2x⟩
 go_wp2_with fail
 refine hK.out _ _ ⟨(hr.below b2x hr.lt).cell 0, (hr.below b2x hr.lt).cell 1, (hr.below b2x hr.lt).cell 2, (hd.below b2x hd.lt).cell 0⟩ (fun hH => ?_)
 clear hK K
 try (simp only [Act.put, List.setIfInBounds_toArray, List.set_cons_zero, List.set_cons_succ])
 refine tk 8 hH ?_
 refine wpAnyH_done ?hru3 ?hqu3 _
 case hru3 => kernel_rfl
 refine NoPanic.normal ?_
 go_wp2
 go_ret
 exact ⟨by rw [HS.out]; rfl, below_on hb b2x⟩

set_option maxHeartbeats 4000000 in
theorem c_Step1 (gr gd : Nat) (r0 r1 r2 dt : Int) (w : World) (ir0 : I32 r0) (ir1 : I32 r1) (ir2 : I32 r2) (idt : I32 dt) (hr : Blk w gr 79 #[.int .i32 r0, .int .i32 r1, .int .i32 r2]) (hd : Blk w gd 21 #[.int .i32 dt]) :
  Calls Tryz.prog 89 #[.int .i64 1, .pointer (some ⟨gr, 0, none⟩), .pointer (some ⟨gd, 0, none⟩)] w fun e w' => e = .returned (.int .i64 (stH r1 dt)) ∧ Below w.heap.size w w' := by
 have HR := hid fun w => fx_Round (r1 * dt) 3 w (st_bd r1 dt ir1 idt).1 (by unfold I64; omega)
 have HS : Hid (stH r1 dt = roundP (r1 * dt) 3) := rfl
 have hm := mul_bd r1 dt ir1 idt
 have u0 : IntKind.i64.wrap r1 = r1 := IntWalk.i64_in _ (by unfold I32 at *; omega)
 have u1 : IntKind.i64.wrap dt = dt := IntWalk.i64_in _ (by unfold I32 at *; omega)
 have u2 : IntKind.i64.wrap (r1 * dt) = r1 * dt := IntWalk.i64_in _ (by omega)
 have hb : Below w.heap.size w w := Below.refl _ w
 generalize roundP (r1 * dt) 3 = x at *
 clear hm ir0 ir1 ir2 idt
 go_enter Tryz.func89, Tryz.ntmps89
 go_wp2_with fail
 refine wp_region_noPanic ?_
 refine wp_region_held_drew (S := (fun w' : World => w'.cell? ⟨gr, 0, none⟩ = some (.int .i32 r0) ∧ w'.cell? ⟨gr, 1, none⟩ = some (.int .i32 r1) ∧ w'.cell? ⟨gr, 2, none⟩ = some (.int .i32 r2) ∧ w'.cell? ⟨gd, 0, none⟩ = some (.int .i32 dt))) (by kernel_rfl) ⟨hr.cell 0, hr.cell 1, hr.cell 2, hd.cell 0⟩ (fun hH => ?_)
 refine (show wpAnyH _ _ _ _ _ 9 _ _ _ from ?_)
 try (simp only [Act.put, List.setIfInBounds_toArray, List.set_cons_zero, List.set_cons_succ])
 replace hr := hr.drew
 replace hd := hd.drew
 replace hb := hb.drew
 generalize w.drew = W4 at *
 refine tk 0 hH ?_
 refine tk 1 hH ?_
 refine tk 2 hH ?_
 refine tk 3 hH ?_
 refine tk 4 hH ?_
 refine tk 5 hH ?_
 refine tk 6 hH ?_
 refine rd1 7 (fun K hK => ?_)
 go_simp
 refine (HR.out _).mono ?_
 rintro e w5x ⟨rfl, b5x⟩
 go_wp2_with fail
 refine hK.out _ _ ⟨(hr.below b5x hr.lt).cell 0, (hr.below b5x hr.lt).cell 1, (hr.below b5x hr.lt).cell 2, (hd.below b5x hd.lt).cell 0⟩ (fun hH => ?_)
 clear hK K
 try (simp only [Act.put, List.setIfInBounds_toArray, List.set_cons_zero, List.set_cons_succ])
 refine tk 8 hH ?_
 refine wpAnyH_done ?hru6 ?hqu6 _
 case hru6 => kernel_rfl
 refine NoPanic.normal ?_
 go_wp2
 go_ret
 exact ⟨by rw [HS.out]; rfl, below_on hb b5x⟩

set_option maxHeartbeats 4000000 in
theorem c_Step2 (gr gd : Nat) (r0 r1 r2 dt : Int) (w : World) (ir0 : I32 r0) (ir1 : I32 r1) (ir2 : I32 r2) (idt : I32 dt) (hr : Blk w gr 79 #[.int .i32 r0, .int .i32 r1, .int .i32 r2]) (hd : Blk w gd 21 #[.int .i32 dt]) :
  Calls Tryz.prog 89 #[.int .i64 2, .pointer (some ⟨gr, 0, none⟩), .pointer (some ⟨gd, 0, none⟩)] w fun e w' => e = .returned (.int .i64 (stH r2 dt)) ∧ Below w.heap.size w w' := by
 have HR := hid fun w => fx_Round (r2 * dt) 3 w (st_bd r2 dt ir2 idt).1 (by unfold I64; omega)
 have HS : Hid (stH r2 dt = roundP (r2 * dt) 3) := rfl
 have hm := mul_bd r2 dt ir2 idt
 have u0 : IntKind.i64.wrap r2 = r2 := IntWalk.i64_in _ (by unfold I32 at *; omega)
 have u1 : IntKind.i64.wrap dt = dt := IntWalk.i64_in _ (by unfold I32 at *; omega)
 have u2 : IntKind.i64.wrap (r2 * dt) = r2 * dt := IntWalk.i64_in _ (by omega)
 have hb : Below w.heap.size w w := Below.refl _ w
 generalize roundP (r2 * dt) 3 = x at *
 clear hm ir0 ir1 ir2 idt
 go_enter Tryz.func89, Tryz.ntmps89
 go_wp2_with fail
 refine wp_region_noPanic ?_
 refine wp_region_held_drew (S := (fun w' : World => w'.cell? ⟨gr, 0, none⟩ = some (.int .i32 r0) ∧ w'.cell? ⟨gr, 1, none⟩ = some (.int .i32 r1) ∧ w'.cell? ⟨gr, 2, none⟩ = some (.int .i32 r2) ∧ w'.cell? ⟨gd, 0, none⟩ = some (.int .i32 dt))) (by kernel_rfl) ⟨hr.cell 0, hr.cell 1, hr.cell 2, hd.cell 0⟩ (fun hH => ?_)
 refine (show wpAnyH _ _ _ _ _ 9 _ _ _ from ?_)
 try (simp only [Act.put, List.setIfInBounds_toArray, List.set_cons_zero, List.set_cons_succ])
 replace hr := hr.drew
 replace hd := hd.drew
 replace hb := hb.drew
 generalize w.drew = W7 at *
 refine tk 0 hH ?_
 refine tk 1 hH ?_
 refine tk 2 hH ?_
 refine tk 3 hH ?_
 refine tk 4 hH ?_
 refine tk 5 hH ?_
 refine tk 6 hH ?_
 refine rd1 7 (fun K hK => ?_)
 go_simp
 refine (HR.out _).mono ?_
 rintro e w8x ⟨rfl, b8x⟩
 go_wp2_with fail
 refine hK.out _ _ ⟨(hr.below b8x hr.lt).cell 0, (hr.below b8x hr.lt).cell 1, (hr.below b8x hr.lt).cell 2, (hd.below b8x hd.lt).cell 0⟩ (fun hH => ?_)
 clear hK K
 try (simp only [Act.put, List.setIfInBounds_toArray, List.set_cons_zero, List.set_cons_succ])
 refine tk 8 hH ?_
 refine wpAnyH_done ?hru9 ?hqu9 _
 case hru9 => kernel_rfl
 refine NoPanic.normal ?_
 go_wp2
 go_ret
 exact ⟨by rw [HS.out]; rfl, below_on hb b8x⟩
set_option maxRecDepth 20000 in
set_option maxHeartbeats 16000000 in
theorem t_Step (q0 q1 q2 q3 r0 r1 r2 dt : Int) (w : World) (iq0 : I32 q0) (iq1 : I32 q1) (iq2 : I32 q2) (iq3 : I32 q3) (ir0 : I32 r0) (ir1 : I32 r1) (ir2 : I32 r2) (idt : I32 dt) :
  Calls Tryz.prog 62 #[.agg #[.int .i32 q0, .int .i32 q1, .int .i32 q2, .int .i32 q3], .agg #[.int .i32 r0, .int .i32 r1, .int .i32 r2], .int .i32 dt] w (Steps q0 q1 q2 q3 r0 r1 r2 dt w) := by
 have hmf : ∀ (fn : Fn) (first cap : Array Value) (w : World), (Instr.makeFunc fn first cap).run Tryz.prog w = .ok (.func fn first cap) w := fun _ _ _ _ => rfl
 have HPost : Hid (∀ e w', e = .returned (.tuple #[.agg #[.int .i32 (stO (stL q0 q1 q2 q3 r0 r1 r2 dt) (stP 0 q0 q1 q2 q3 r0 r1 r2 dt) 1073741824), .int .i32 (stO (stL q0 q1 q2 q3 r0 r1 r2 dt) (stP 1 q0 q1 q2 q3 r0 r1 r2 dt) 0), .int .i32 (stO (stL q0 q1 q2 q3 r0 r1 r2 dt) (stP 2 q0 q1 q2 q3 r0 r1 r2 dt) 0), .int .i32 (stO (stL q0 q1 q2 q3 r0 r1 r2 dt) (stP 3 q0 q1 q2 q3 r0 r1 r2 dt) 0)], .int .i64 (stN q0 q1 q2 q3 r0 r1 r2 dt + (if 0 < farP (stL q0 q1 q2 q3 r0 r1 r2 dt) then 0 else 1))]) ∧ Below w.heap.size w w' → Steps q0 q1 q2 q3 r0 r1 r2 dt w e w') := fun e w' h => h
 have sb0 := st_bd r0 dt ir0 idt
 have sb1 := st_bd r1 dt ir1 idt
 have sb2 := st_bd r2 dt ir2 idt
 have HC := hid fun (gr gd : Nat) (w : World) (hr : Blk w gr 79 #[.int .i32 r0, .int .i32 r1, .int .i32 r2]) (hd : Blk w gd 21 #[.int .i32 dt]) => t_cut_Step1 (.pointer (some ⟨gr, 0, none⟩)) (.pointer (some ⟨gd, 0, none⟩)) (stH r0 dt) (stH r1 dt) (stH r2 dt) w sb0.2 sb1.2 sb2.2 (by
  intro i V hi w' hw
  rcases hi with ⟨rfl, rfl⟩ | ⟨rfl, rfl⟩ | ⟨rfl, rfl⟩
  ·exact c_Step0 gr gd r0 r1 r2 dt w' ir0 ir1 ir2 idt (hr.below hw hr.lt) (hd.below hw hd.lt)
  ·exact c_Step1 gr gd r0 r1 r2 dt w' ir0 ir1 ir2 idt (hr.below hw hr.lt) (hd.below hw hd.lt)
  ·exact c_Step2 gr gd r0 r1 r2 dt w' ir0 ir1 ir2 idt (hr.below hw hr.lt) (hd.below hw hd.lt))
 have e0 : stP 0 q0 q1 q2 q3 r0 r1 r2 dt = clampP (mulW q0 q1 q2 q3 1073741824 (clampP (stH r0 dt)) (clampP (stH r1 dt)) (clampP (stH r2 dt))) := rfl
 have e1 : stP 1 q0 q1 q2 q3 r0 r1 r2 dt = clampP (mulX q0 q1 q2 q3 1073741824 (clampP (stH r0 dt)) (clampP (stH r1 dt)) (clampP (stH r2 dt))) := rfl
 have e2 : stP 2 q0 q1 q2 q3 r0 r1 r2 dt = clampP (mulY q0 q1 q2 q3 1073741824 (clampP (stH r0 dt)) (clampP (stH r1 dt)) (clampP (stH r2 dt))) := rfl
 have e3 : stP 3 q0 q1 q2 q3 r0 r1 r2 dt = clampP (mulZ q0 q1 q2 q3 1073741824 (clampP (stH r0 dt)) (clampP (stH r1 dt)) (clampP (stH r2 dt))) := rfl
 have eN : stN q0 q1 q2 q3 r0 r1 r2 dt = (cutC (stH r0 dt) + cutC (stH r1 dt) + cutC (stH r2 dt)) + (cutC (mulW q0 q1 q2 q3 1073741824 (clampP (stH r0 dt)) (clampP (stH r1 dt)) (clampP (stH r2 dt))) + cutC (mulX q0 q1 q2 q3 1073741824 (clampP (stH r0 dt)) (clampP (stH r1 dt)) (clampP (stH r2 dt))) + cutC (mulY q0 q1 q2 q3 1073741824 (clampP (stH r0 dt)) (clampP (stH r1 dt)) (clampP (stH r2 dt))) + cutC (mulZ q0 q1 q2 q3 1073741824 (clampP (stH r0 dt)) (clampP (stH r1 dt)) (clampP (stH r2 dt)))) := rfl
 have eL : stL q0 q1 q2 q3 r0 r1 r2 dt = [stP 0 q0 q1 q2 q3 r0 r1 r2 dt, stP 1 q0 q1 q2 q3 r0 r1 r2 dt, stP 2 q0 q1 q2 q3 r0 r1 r2 dt, stP 3 q0 q1 q2 q3 r0 r1 r2 dt] := rfl
 have n0 := cutC_bd (stH r0 dt)
 have ih0 := clampP_bd (stH r0 dt)
 generalize cutC (stH r0 dt) = k0 at *
 generalize clampP (stH r0 dt) = h0 at *
 have n1 := cutC_bd (stH r1 dt)
 have ih1 := clampP_bd (stH r1 dt)
 generalize cutC (stH r1 dt) = k1 at *
 generalize clampP (stH r1 dt) = h1 at *
 have n2 := cutC_bd (stH r2 dt)
 have ih2 := clampP_bd (stH r2 dt)
 generalize cutC (stH r2 dt) = k2 at *
 generalize clampP (stH r2 dt) = h2 at *
 have hM := fun w => q_Mul q0 q1 q2 q3 1073741824 h0 h1 h2 w iq0 iq1 iq2 iq3 (by unfold I32; omega) ih0 ih1 ih2
 unfold Muls at hM
 rw [← e0] at hM
 have m0 := cutC_bd (mulW q0 q1 q2 q3 1073741824 h0 h1 h2)
 generalize cutC (mulW q0 q1 q2 q3 1073741824 h0 h1 h2) = c0 at *
 rw [← e1] at hM
 have m1 := cutC_bd (mulX q0 q1 q2 q3 1073741824 h0 h1 h2)
 generalize cutC (mulX q0 q1 q2 q3 1073741824 h0 h1 h2) = c1 at *
 rw [← e2] at hM
 have m2 := cutC_bd (mulY q0 q1 q2 q3 1073741824 h0 h1 h2)
 generalize cutC (mulY q0 q1 q2 q3 1073741824 h0 h1 h2) = c2 at *
 rw [← e3] at hM
 have m3 := cutC_bd (mulZ q0 q1 q2 q3 1073741824 h0 h1 h2)
 generalize cutC (mulZ q0 q1 q2 q3 1073741824 h0 h1 h2) = c3 at *
 have ip0 : I32 (stP 0 q0 q1 q2 q3 r0 r1 r2 dt) := clampP_bd _
 clear e0
 have ip1 : I32 (stP 1 q0 q1 q2 q3 r0 r1 r2 dt) := clampP_bd _
 clear e1
 have ip2 : I32 (stP 2 q0 q1 q2 q3 r0 r1 r2 dt) := clampP_bd _
 clear e2
 have ip3 : I32 (stP 3 q0 q1 q2 q3 r0 r1 r2 dt) := clampP_bd _
 clear e3
 generalize stP 0 q0 q1 q2 q3 r0 r1 r2 dt = p0 at *
 generalize stP 1 q0 q1 q2 q3 r0 r1 r2 dt = p1 at *
 generalize stP 2 q0 q1 q2 q3 r0 r1 r2 dt = p2 at *
 generalize stP 3 q0 q1 q2 q3 r0 r1 r2 dt = p3 at *
 generalize stN q0 q1 q2 q3 r0 r1 r2 dt = NN at *
 generalize stL q0 q1 q2 q3 r0 r1 r2 dt = LL at *
 subst eL
 have hK := fun w => u_Make p0 p1 p2 p3 w ip0 ip1 ip2 ip3
 unfold Makes at hK
 have HO : Hid (∀ x z, stO [p0, p1, p2, p3] x z = if 0 < farP [p0, p1, p2, p3] then makeP [p0, p1, p2, p3] x else z) := fun _ _ => rfl
 generalize hs0 : makeP [p0, p1, p2, p3] p0 = s0 at hK
 have HS0 := hid hs0
 clear hs0
 generalize hs1 : makeP [p0, p1, p2, p3] p1 = s1 at hK
 have HS1 := hid hs1
 clear hs1
 generalize hs2 : makeP [p0, p1, p2, p3] p2 = s2 at hK
 have HS2 := hid hs2
 clear hs2
 generalize hs3 : makeP [p0, p1, p2, p3] p3 = s3 at hK
 have HS3 := hid hs3
 clear hs3
 have HMM := hid hM
 have HKK0 := hid hK
 clear hM hK
 generalize hA : k0 + k1 + k2 = A at *
 generalize hB : c0 + c1 + c2 + c3 = B at *
 have hAB : 0 ≤ A ∧ A ≤ 3 ∧ 0 ≤ B ∧ B ≤ 4 := by omega
 have uAB : IntKind.i64.wrap (A + B) = A + B := IntWalk.i64_in _ (by omega)
 have uAB1 : IntKind.i64.wrap (A + B + 1) = A + B + 1 := IntWalk.i64_in _ (by omega)
 have EN := hid eN
 clear eN hA hB hAB n0 n1 n2 ih0 ih1 ih2 m0 m1 m2 m3 ip0 ip1 ip2 ip3 sb0 sb1 sb2 iq0 iq1 iq2 iq3 ir0 ir1 ir2 idt
 have hq : Blk ((((w.alloc (.cells #[.int .i32 q0, .int .i32 q1, .int .i32 q2, .int .i32 q3] 23)).alloc (.cells #[.int .i32 r0, .int .i32 r1, .int .i32 r2] 25)).alloc (.cells #[.int .i32 dt] 21)).alloc (.cells #[.int .i32 0, .int .i32 0, .int .i32 0, .int .i32 0] 23)) w.heap.size 23 #[.int .i32 q0, .int .i32 q1, .int .i32 q2, .int .i32 q3] := (((Blk.new w _ _).alloc _).alloc _).alloc _
 have hd : Blk ((((w.alloc (.cells #[.int .i32 q0, .int .i32 q1, .int .i32 q2, .int .i32 q3] 23)).alloc (.cells #[.int .i32 r0, .int .i32 r1, .int .i32 r2] 25)).alloc (.cells #[.int .i32 dt] 21)).alloc (.cells #[.int .i32 0, .int .i32 0, .int .i32 0, .int .i32 0] 23)) (w.heap.size + 1 + 1) 21 #[.int .i32 dt] := by have := (Blk.new ((w.alloc (.cells #[.int .i32 q0, .int .i32 q1, .int .i32 q2, .int .i32 q3] 23)).alloc (.cells #[.int .i32 r0, .int .i32 r1, .int .i32 r2] 25)) 21 #[.int .i32 dt]).alloc (.cells #[.int .i32 0, .int .i32 0, .int .i32 0, .int .i32 0] 23); simpa using this
 have hz : Blk ((((w.alloc (.cells #[.int .i32 q0, .int .i32 q1, .int .i32 q2, .int .i32 q3] 23)).alloc (.cells #[.int .i32 r0, .int .i32 r1, .int .i32 r2] 25)).alloc (.cells #[.int .i32 dt] 21)).alloc (.cells #[.int .i32 0, .int .i32 0, .int .i32 0, .int .i32 0] 23)) (w.heap.size + 1 + 1 + 1) 23 #[.int .i32 0, .int .i32 0, .int .i32 0, .int .i32 0] := by have := Blk.new (((w.alloc (.cells #[.int .i32 q0, .int .i32 q1, .int .i32 q2, .int .i32 q3] 23)).alloc (.cells #[.int .i32 r0, .int .i32 r1, .int .i32 r2] 25)).alloc (.cells #[.int .i32 dt] 21)) 23 #[.int .i32 0, .int .i32 0, .int .i32 0, .int .i32 0]; simpa using this
 have hb : Below w.heap.size w ((((w.alloc (.cells #[.int .i32 q0, .int .i32 q1, .int .i32 q2, .int .i32 q3] 23)).alloc (.cells #[.int .i32 r0, .int .i32 r1, .int .i32 r2] 25)).alloc (.cells #[.int .i32 dt] 21)).alloc (.cells #[.int .i32 0, .int .i32 0, .int .i32 0, .int .i32 0] 23)) := ((((Below.refl _ w).alloc (Nat.le_refl _) _).alloc (by simp) _).alloc (by simp; omega) _).alloc (by simp; omega) _
 go_enter Tryz.func62, Tryz.ntmps62
 go_upto_region 1 with fail
 have g0 : ((((w.alloc (.cells #[.int .i32 q0, .int .i32 q1, .int .i32 q2, .int .i32 q3] 23)).alloc (.cells #[.int .i32 r0, .int .i32 r1, .int .i32 r2] 25)).alloc (.cells #[.int .i32 dt] 21)).alloc (.cells #[.int .i32 0, .int .i32 0, .int .i32 0, .int .i32 0] 23)).cell? ⟨w.heap.size + 1, 0, none⟩ = some (.int .i32 r0) := by have := ((Blk.new (w.alloc (.cells #[.int .i32 q0, .int .i32 q1, .int .i32 q2, .int .i32 q3] 23)) 25 #[.int .i32 r0, .int .i32 r1, .int .i32 r2]).alloc (.cells #[.int .i32 dt] 21)).alloc (.cells #[.int .i32 0, .int .i32 0, .int .i32 0, .int .i32 0] 23); have := this.cell 0; simpa using this
 have g1 : ((((w.alloc (.cells #[.int .i32 q0, .int .i32 q1, .int .i32 q2, .int .i32 q3] 23)).alloc (.cells #[.int .i32 r0, .int .i32 r1, .int .i32 r2] 25)).alloc (.cells #[.int .i32 dt] 21)).alloc (.cells #[.int .i32 0, .int .i32 0, .int .i32 0, .int .i32 0] 23)).cell? ⟨w.heap.size + 1, 1, none⟩ = some (.int .i32 r1) := by have := ((Blk.new (w.alloc (.cells #[.int .i32 q0, .int .i32 q1, .int .i32 q2, .int .i32 q3] 23)) 25 #[.int .i32 r0, .int .i32 r1, .int .i32 r2]).alloc (.cells #[.int .i32 dt] 21)).alloc (.cells #[.int .i32 0, .int .i32 0, .int .i32 0, .int .i32 0] 23); have := this.cell 1; simpa using this
 have g2 : ((((w.alloc (.cells #[.int .i32 q0, .int .i32 q1, .int .i32 q2, .int .i32 q3] 23)).alloc (.cells #[.int .i32 r0, .int .i32 r1, .int .i32 r2] 25)).alloc (.cells #[.int .i32 dt] 21)).alloc (.cells #[.int .i32 0, .int .i32 0, .int .i32 0, .int .i32 0] 23)).cell? ⟨w.heap.size + 1, 2, none⟩ = some (.int .i32 r2) := by have := ((Blk.new (w.alloc (.cells #[.int .i32 q0, .int .i32 q1, .int .i32 q2, .int .i32 q3] 23)) 25 #[.int .i32 r0, .int .i32 r1, .int .i32 r2]).alloc (.cells #[.int .i32 dt] 21)).alloc (.cells #[.int .i32 0, .int .i32 0, .int .i32 0, .int .i32 0] 23); have := this.cell 2; simpa using this
 generalize (((w.alloc (.cells #[.int .i32 q0, .int .i32 q1, .int .i32 q2, .int .i32 q3] 23)).alloc (.cells #[.int .i32 r0, .int .i32 r1, .int .i32 r2] 25)).alloc (.cells #[.int .i32 dt] 21)).alloc (.cells #[.int .i32 0, .int .i32 0, .int .i32 0, .int .i32 0] 23) = W0 at *
 go_wp2_with fail
 clear g0 g1 g2
 have hr := Blk.new W0 79 #[.int .i32 r0, .int .i32 r1, .int .i32 r2]
 replace hq := hq.alloc (.cells #[.int .i32 r0, .int .i32 r1, .int .i32 r2] 79)
 replace hd := hd.alloc (.cells #[.int .i32 r0, .int .i32 r1, .int .i32 r2] 79)
 replace hz := hz.alloc (.cells #[.int .i32 r0, .int .i32 r1, .int .i32 r2] 79)
 replace hb := hb.alloc hb.size (.cells #[.int .i32 r0, .int .i32 r1, .int .i32 r2] 79)
 refine (HC.out _ _ _ hr hd).mono ?_
 rintro e w2 ⟨rfl, b2⟩
 replace hq := (hq.below b2 hq.lt).alloc (.cells #[.int .i32 h0, .int .i32 h1, .int .i32 h2] 79)
 replace hz := (hz.below b2 hz.lt).alloc (.cells #[.int .i32 h0, .int .i32 h1, .int .i32 h2] 79)
 replace hb := (below_on hb b2).alloc (below_on hb b2).size (.cells #[.int .i32 h0, .int .i32 h1, .int .i32 h2] 79)
 have hh := Blk.new w2 79 #[.int .i32 h0, .int .i32 h1, .int .i32 h2]
 clear hr hd b2 HC
 go_upto_region 3 with fail
 generalize w2.alloc (.cells #[.int .i32 h0, .int .i32 h1, .int .i32 h2] 79) = W2 at *
 generalize w2.heap.size = gh at *
 have f0 : W2.cell? ⟨w.heap.size, 0, none⟩ = some (.int .i32 q0) := hq.cell 0
 have f1 : W2.cell? ⟨w.heap.size, 1, none⟩ = some (.int .i32 q1) := hq.cell 1
 have f2 : W2.cell? ⟨w.heap.size, 2, none⟩ = some (.int .i32 q2) := hq.cell 2
 have f3 : W2.cell? ⟨w.heap.size, 3, none⟩ = some (.int .i32 q3) := hq.cell 3
 have g0 : W2.cell? ⟨gh, 0, none⟩ = some (.int .i32 h0) := hh.cell 0
 have g1 : W2.cell? ⟨gh, 1, none⟩ = some (.int .i32 h1) := hh.cell 1
 have g2 : W2.cell? ⟨gh, 2, none⟩ = some (.int .i32 h2) := hh.cell 2
 go_wp2_with fail
 clear f0 f1 f2 f3 g0 g1 g2
 refine (HMM.out _).mono ?_
 rintro e w3 ⟨rfl, b3⟩
 replace hz := (hz.below b3 hz.lt).alloc (.cells #[.int .i32 p0, .int .i32 p1, .int .i32 p2, .int .i32 p3] 23)
 replace hb := (below_on hb b3).alloc (below_on hb b3).size (.cells #[.int .i32 p0, .int .i32 p1, .int .i32 p2, .int .i32 p3] 23)
 have hP := Blk.new w3 23 #[.int .i32 p0, .int .i32 p1, .int .i32 p2, .int .i32 p3]
 clear hq hh b3 HMM
 go_upto_region 4 with fail
 generalize w3.alloc (.cells #[.int .i32 p0, .int .i32 p1, .int .i32 p2, .int .i32 p3] 23) = W3 at *
 generalize w3.heap.size = gp at *
 have f0 : W3.cell? ⟨gp, 0, none⟩ = some (.int .i32 p0) := hP.cell 0
 have f1 : W3.cell? ⟨gp, 1, none⟩ = some (.int .i32 p1) := hP.cell 1
 have f2 : W3.cell? ⟨gp, 2, none⟩ = some (.int .i32 p2) := hP.cell 2
 have f3 : W3.cell? ⟨gp, 3, none⟩ = some (.int .i32 p3) := hP.cell 3
 go_wp2_with fail
 clear f0 f1 f2 f3
 have HK1 := hid (HKK0.out W3)
 clear HKK0
 by_cases hfar : 0 < farP [p0, p1, p2, p3]
 ·have HK2 := HK1
  rw [show decide (0 < farP [p0, p1, p2, p3]) = true from decide_eq_true hfar] at HK2
  have HE : Hid (∀ (x z : Int), stO [p0, p1, p2, p3] x z = makeP [p0, p1, p2, p3] x) := hid (fun x z => by rw [HO.out, if_pos hfar])
  have HF : Hid ((if 0 < farP [p0, p1, p2, p3] then (0 : Int) else 1) = 0) := hid (if_pos hfar)
  clear HK1 HO hfar
  refine (HK2.out).mono ?_
  rintro e w4 ⟨rfl, b4⟩
  replace hz := (hz.below b4 hz.lt).alloc (.cells #[.int .i32 s0, .int .i32 s1, .int .i32 s2, .int .i32 s3] 23)
  replace hb := (below_on hb b4).alloc (below_on hb b4).size (.cells #[.int .i32 s0, .int .i32 s1, .int .i32 s2, .int .i32 s3] 23)
  have hS := Blk.new w4 23 #[.int .i32 s0, .int .i32 s1, .int .i32 s2, .int .i32 s3]
  clear b4 HK2 hP
  go_upto_region 7 with fail
  generalize w4.alloc (.cells #[.int .i32 s0, .int .i32 s1, .int .i32 s2, .int .i32 s3] 23) = W4 at *
  generalize w4.heap.size = gs at *
  have c0x : W4.cell? ⟨gs, 0, none⟩ = some (.int .i32 s0) := hS.cell 0
  have c1x : W4.cell? ⟨gs, 1, none⟩ = some (.int .i32 s1) := hS.cell 1
  have c2x : W4.cell? ⟨gs, 2, none⟩ = some (.int .i32 s2) := hS.cell 2
  have c3x : W4.cell? ⟨gs, 3, none⟩ = some (.int .i32 s3) := hS.cell 3
  have d0 : W4.cell? ⟨w.heap.size + 1 + 1 + 1, 0, none⟩ = some (.int .i32 0) := hz.cell 0
  have zz0 := hz.frozen 0
  have d1 : W4.cell? ⟨w.heap.size + 1 + 1 + 1, 1, none⟩ = some (.int .i32 0) := hz.cell 1
  have zz1 := hz.frozen 1
  have d2 : W4.cell? ⟨w.heap.size + 1 + 1 + 1, 2, none⟩ = some (.int .i32 0) := hz.cell 2
  have zz2 := hz.frozen 2
  have d3 : W4.cell? ⟨w.heap.size + 1 + 1 + 1, 3, none⟩ = some (.int .i32 0) := hz.cell 3
  have zz3 := hz.frozen 3
  have hf : Blk ((((W4.setCell ⟨w.heap.size + 1 + 1 + 1, 0, none⟩ (.int .i32 s0)).setCell ⟨w.heap.size + 1 + 1 + 1, 1, none⟩ (.int .i32 s1)).setCell ⟨w.heap.size + 1 + 1 + 1, 2, none⟩ (.int .i32 s2)).setCell ⟨w.heap.size + 1 + 1 + 1, 3, none⟩ (.int .i32 s3)) (w.heap.size + 1 + 1 + 1) 23 #[.int .i32 s0, .int .i32 s1, .int .i32 s2, .int .i32 s3] := ((((hz.set_ 0 (.int .i32 s0)).set_ 1 (.int .i32 s1)).set_ 2 (.int .i32 s2)).set_ 3 (.int .i32 s3))
  have hbf : Below w.heap.size w ((((W4.setCell ⟨w.heap.size + 1 + 1 + 1, 0, none⟩ (.int .i32 s0)).setCell ⟨w.heap.size + 1 + 1 + 1, 1, none⟩ (.int .i32 s1)).setCell ⟨w.heap.size + 1 + 1 + 1, 2, none⟩ (.int .i32 s2)).setCell ⟨w.heap.size + 1 + 1 + 1, 3, none⟩ (.int .i32 s3)) := ((((hb.sc (w.heap.size + 1 + 1 + 1) 0 (by omega) (.int .i32 s0)).sc (w.heap.size + 1 + 1 + 1) 1 (by omega) (.int .i32 s1)).sc (w.heap.size + 1 + 1 + 1) 2 (by omega) (.int .i32 s2)).sc (w.heap.size + 1 + 1 + 1) 3 (by omega) (.int .i32 s3))
  go_wp2
  generalize ((((W4.setCell ⟨w.heap.size + 1 + 1 + 1, 0, none⟩ (.int .i32 s0)).setCell ⟨w.heap.size + 1 + 1 + 1, 1, none⟩ (.int .i32 s1)).setCell ⟨w.heap.size + 1 + 1 + 1, 2, none⟩ (.int .i32 s2)).setCell ⟨w.heap.size + 1 + 1 + 1, 3, none⟩ (.int .i32 s3)) = wf at *
  have f0 : wf.cell? ⟨w.heap.size + 1 + 1 + 1, 0, none⟩ = some (.int .i32 s0) := hf.cell 0
  have f1 : wf.cell? ⟨w.heap.size + 1 + 1 + 1, 1, none⟩ = some (.int .i32 s1) := hf.cell 1
  have f2 : wf.cell? ⟨w.heap.size + 1 + 1 + 1, 2, none⟩ = some (.int .i32 s2) := hf.cell 2
  have f3 : wf.cell? ⟨w.heap.size + 1 + 1 + 1, 3, none⟩ = some (.int .i32 s3) := hf.cell 3
  simp [bodyPost, results, Tryz.results62, go_sem, f0, f1, f2, f3]
  refine HPost.out _ _ ⟨by rw [HE.out, HE.out, HE.out, HE.out, HS0.out, HS1.out, HS2.out, HS3.out, HF.out, EN.out, Int.add_zero], hbf⟩
 ·have HK2 := HK1
  rw [show decide (0 < farP [p0, p1, p2, p3]) = false from decide_eq_false hfar] at HK2
  have HE : Hid (∀ (x z : Int), stO [p0, p1, p2, p3] x z = z) := hid (fun x z => by rw [HO.out, if_neg hfar])
  have HF : Hid ((if 0 < farP [p0, p1, p2, p3] then (0 : Int) else 1) = 1) := hid (if_neg hfar)
  clear HK1 HO hfar
  refine (HK2.out).mono ?_
  rintro e w4 ⟨rfl, b4⟩
  replace hz := (hz.below b4 hz.lt).alloc (.cells #[.int .i32 s0, .int .i32 s1, .int .i32 s2, .int .i32 s3] 23)
  replace hb := (below_on hb b4).alloc (below_on hb b4).size (.cells #[.int .i32 s0, .int .i32 s1, .int .i32 s2, .int .i32 s3] 23)
  clear b4 HK2 hP
  go_wp2_with fail
  generalize w4.alloc (.cells #[.int .i32 s0, .int .i32 s1, .int .i32 s2, .int .i32 s3] 23) = W4 at *
  refine ((q_One) _).mono ?_
  rintro e w5 ⟨rfl, b5⟩
  replace hz := hz.below b5 hz.lt
  replace hb := below_on hb b5
  clear b5
  have d0 : w5.cell? ⟨w.heap.size + 1 + 1 + 1, 0, none⟩ = some (.int .i32 0) := hz.cell 0
  have zz0 := hz.frozen 0
  have d1 : w5.cell? ⟨w.heap.size + 1 + 1 + 1, 1, none⟩ = some (.int .i32 0) := hz.cell 1
  have zz1 := hz.frozen 1
  have d2 : w5.cell? ⟨w.heap.size + 1 + 1 + 1, 2, none⟩ = some (.int .i32 0) := hz.cell 2
  have zz2 := hz.frozen 2
  have d3 : w5.cell? ⟨w.heap.size + 1 + 1 + 1, 3, none⟩ = some (.int .i32 0) := hz.cell 3
  have zz3 := hz.frozen 3
  have hf : Blk ((((w5.setCell ⟨w.heap.size + 1 + 1 + 1, 0, none⟩ (.int .i32 1073741824)).setCell ⟨w.heap.size + 1 + 1 + 1, 1, none⟩ (.int .i32 0)).setCell ⟨w.heap.size + 1 + 1 + 1, 2, none⟩ (.int .i32 0)).setCell ⟨w.heap.size + 1 + 1 + 1, 3, none⟩ (.int .i32 0)) (w.heap.size + 1 + 1 + 1) 23 #[.int .i32 1073741824, .int .i32 0, .int .i32 0, .int .i32 0] := ((((hz.set_ 0 (.int .i32 1073741824)).set_ 1 (.int .i32 0)).set_ 2 (.int .i32 0)).set_ 3 (.int .i32 0))
  have hbf : Below w.heap.size w ((((w5.setCell ⟨w.heap.size + 1 + 1 + 1, 0, none⟩ (.int .i32 1073741824)).setCell ⟨w.heap.size + 1 + 1 + 1, 1, none⟩ (.int .i32 0)).setCell ⟨w.heap.size + 1 + 1 + 1, 2, none⟩ (.int .i32 0)).setCell ⟨w.heap.size + 1 + 1 + 1, 3, none⟩ (.int .i32 0)) := ((((hb.sc (w.heap.size + 1 + 1 + 1) 0 (by omega) (.int .i32 1073741824)).sc (w.heap.size + 1 + 1 + 1) 1 (by omega) (.int .i32 0)).sc (w.heap.size + 1 + 1 + 1) 2 (by omega) (.int .i32 0)).sc (w.heap.size + 1 + 1 + 1) 3 (by omega) (.int .i32 0))
  go_wp2
  generalize ((((w5.setCell ⟨w.heap.size + 1 + 1 + 1, 0, none⟩ (.int .i32 1073741824)).setCell ⟨w.heap.size + 1 + 1 + 1, 1, none⟩ (.int .i32 0)).setCell ⟨w.heap.size + 1 + 1 + 1, 2, none⟩ (.int .i32 0)).setCell ⟨w.heap.size + 1 + 1 + 1, 3, none⟩ (.int .i32 0)) = wf at *
  have f0 : wf.cell? ⟨w.heap.size + 1 + 1 + 1, 0, none⟩ = some (.int .i32 1073741824) := hf.cell 0
  have f1 : wf.cell? ⟨w.heap.size + 1 + 1 + 1, 1, none⟩ = some (.int .i32 0) := hf.cell 1
  have f2 : wf.cell? ⟨w.heap.size + 1 + 1 + 1, 2, none⟩ = some (.int .i32 0) := hf.cell 2
  have f3 : wf.cell? ⟨w.heap.size + 1 + 1 + 1, 3, none⟩ = some (.int .i32 0) := hf.cell 3
  simp [bodyPost, results, Tryz.results62, go_sem, f0, f1, f2, f3]
  refine HPost.out _ _ ⟨by rw [HE.out, HE.out, HE.out, HE.out, HF.out, EN.out], hbf⟩
end Go.Proofs.YtgmepohfkpncmaaGreat
