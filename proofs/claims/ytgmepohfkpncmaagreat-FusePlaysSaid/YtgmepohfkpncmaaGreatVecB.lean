/- Chapter 09: three numbers told by their places, for each closure that tells them. -/
import Derived.Test.YtgmepohfkpncmaaGreatVec
import Derived.Deep.CutRange
namespace Go.Proofs.YtgmepohfkpncmaaGreat
open Go.RowKit
set_option linter.unusedVariables false
set_option linter.unusedSimpArgs false

/-- What tells the numbers: called with 0, 1, 2 in any world that grew out of w it gives V0, V1, V2. -/
def Tells (k : Nat) (c1 c2 : Value) (V0 V1 V2 : Int) (w : World) : Prop :=
 ∀ (i V : Int), ((i = 0 ∧ V = V0) ∨ (i = 1 ∧ V = V1) ∨ (i = 2 ∧ V = V2)) → ∀ w', Below w.heap.size w w' → Calls Tryz.prog k #[.int .i64 i, c1, c2] w' fun e w'' => e = .returned (.int .i64 V) ∧ Below w'.heap.size w' w''

set_option maxHeartbeats 8000000 in
theorem v_each_Add (c1 c2 : Value) (V0 V1 V2 : Int) (w : World) (h0 : I64 V0) (h1 : I64 V1) (h2 : I64 V2) (hT : Tells 86 c1 c2 V0 V1 V2 w) :
  Calls Tryz.prog 41 #[.func (.func 86) #[] #[c1, c2]] w fun e w' =>
   e = .returned (.tuple #[.agg #[.int .i32 (clampP V0), .int .i32 (clampP V1), .int .i32 (clampP V2)], .int .i64 (cutC V0 + cutC V1 + cutC V2)]) ∧ Below w.heap.size w w' := by
 have hmf : ∀ (fn : Fn) (first cap : Array Value) (w : World), (Instr.makeFunc fn first cap).run Tryz.prog w = .ok (.func fn first cap) w := fun _ _ _ _ => rfl
 have T0 := hid (hT 0 V0 (.inl ⟨rfl, rfl⟩))
 have T1 := hid (hT 1 V1 (.inr (.inl ⟨rfl, rfl⟩)))
 have T2 := hid (hT 2 V2 (.inr (.inr ⟨rfl, rfl⟩)))
 clear hT
 have n0 := cutC_bd V0
 have n1 := cutC_bd V1
 have n2 := cutC_bd V2
 have X0 := hid fun g w (hB : Blk w g 109 #[.func (.func 47) #[] #[], .int .i64 0]) => c_cut g 0 V0 w h0 (by omega) hB
 have X1 := hid fun g w (hB : Blk w g 109 #[.func (.func 47) #[] #[], .int .i64 (0 + cutC V0)]) => c_cut g (0 + cutC V0) V1 w h1 (by omega) hB
 have X2 := hid fun g w (hB : Blk w g 109 #[.func (.func 47) #[] #[], .int .i64 (0 + cutC V0 + cutC V1)]) => c_cut g (0 + cutC V0 + cutC V1) V2 w h2 (by omega) hB
 have HN : Hid (0 + cutC V0 + cutC V1 + cutC V2 = cutC V0 + cutC V1 + cutC V2) := hid (by omega)
 generalize clampP V0 = y0 at *
 generalize clampP V1 = y1 at *
 generalize clampP V2 = y2 at *
 clear h0 h1 h2 n0 n1 n2
 have hr : Blk ((w.alloc (.cells #[.int .i32 0, .int .i32 0, .int .i32 0] 25)).alloc (.cells #[.func (.func 47) #[] #[], .int .i64 0] 109)) w.heap.size 25 #[.int .i32 0, .int .i32 0, .int .i32 0] := (Blk.new w _ _).alloc _
 have hc : Blk ((w.alloc (.cells #[.int .i32 0, .int .i32 0, .int .i32 0] 25)).alloc (.cells #[.func (.func 47) #[] #[], .int .i64 0] 109)) (w.heap.size + 1) 109 #[.func (.func 47) #[] #[], .int .i64 0] := by have := Blk.new (w.alloc (.cells #[.int .i32 0, .int .i32 0, .int .i32 0] 25)) 109 #[.func (.func 47) #[] #[], .int .i64 0]; simpa using this
 have hb : Below w.heap.size w ((w.alloc (.cells #[.int .i32 0, .int .i32 0, .int .i32 0] 25)).alloc (.cells #[.func (.func 47) #[] #[], .int .i64 0] 109)) := ((Below.refl _ w).alloc (Nat.le_refl _) _).alloc (by simp) _
 go_enter Tryz.func41, Tryz.ntmps41
 go_wp2_with fail
 generalize (w.alloc (.cells #[.int .i32 0, .int .i32 0, .int .i32 0] 25)).alloc (.cells #[.func (.func 47) #[] #[], .int .i64 0] 109) = W0 at *
 refine (T0.out _ hb).mono ?_
 rintro e wa0 ⟨rfl, b0⟩
 replace hr := hr.below b0 hr.lt
 replace hc := hc.below b0 hc.lt
 replace hb := hb.on b0
 go_wp2_with fail
 refine (X0.out _ _ hc).mono ?_
 rintro e wb0 ⟨rfl, hc', g0⟩
 replace hr := hr.grown g0 (by simp)
 replace hb := hb.grown g0 hb.size (fun k hk => by cases hk; omega)
 replace hc := hc'
 clear hc'
 go_wp2_with fail
 refine (T1.out _ hb).mono ?_
 rintro e wa1 ⟨rfl, b1⟩
 replace hr := hr.below b1 hr.lt
 replace hc := hc.below b1 hc.lt
 replace hb := hb.on b1
 go_wp2_with fail
 refine (X1.out _ _ hc).mono ?_
 rintro e wb1 ⟨rfl, hc', g1⟩
 replace hr := hr.grown g1 (by simp)
 replace hb := hb.grown g1 hb.size (fun k hk => by cases hk; omega)
 replace hc := hc'
 clear hc'
 go_wp2_with fail
 refine (T2.out _ hb).mono ?_
 rintro e wa2 ⟨rfl, b2⟩
 replace hr := hr.below b2 hr.lt
 replace hc := hc.below b2 hc.lt
 replace hb := hb.on b2
 go_wp2_with fail
 refine (X2.out _ _ hc).mono ?_
 rintro e wb2 ⟨rfl, hc', g2⟩
 replace hr := hr.grown g2 (by simp)
 replace hb := hb.grown g2 hb.size (fun k hk => by cases hk; omega)
 replace hc := hc'
 clear hc'
 rw [HN.out] at hc
 have e0 := hc.lt
 have hA := Blk.new wb2 25 #[.int .i32 y0, .int .i32 y1, .int .i32 y2]
 replace hr := hr.alloc (.cells #[.int .i32 y0, .int .i32 y1, .int .i32 y2] 25)
 replace hc := hc.alloc (.cells #[.int .i32 y0, .int .i32 y1, .int .i32 y2] 25)
 replace hb := hb.alloc hb.size (.cells #[.int .i32 y0, .int .i32 y1, .int .i32 y2] 25)
 go_upto_region 4 with fail
 generalize wb2.alloc (.cells #[.int .i32 y0, .int .i32 y1, .int .i32 y2] 25) = W5 at *
 generalize wb2.heap.size = gR at *
 generalize hNN : cutC V0 + cutC V1 + cutC V2 = N at *
 have HNN := hid hNN
 clear hNN
 refine wp_region_noPanic ?_
 refine wp_region_held_drew (S := (fun w' : World => w'.cell? ⟨gR, 0, none⟩ = some (.int .i32 y0) ∧ w'.cell? ⟨gR, 1, none⟩ = some (.int .i32 y1) ∧ w'.cell? ⟨gR, 2, none⟩ = some (.int .i32 y2) ∧ w'.cell? ⟨w.heap.size + 1, 1, none⟩ = some (.int .i64 N))) (by kernel_rfl) ⟨hA.cell 0, hA.cell 1, hA.cell 2, hc.cell 1⟩ (fun hH => ?_)
 refine (show wpAnyH _ _ _ _ _ 5 _ _ _ from ?_)
 try (simp only [Act.put, List.setIfInBounds_toArray, List.set_cons_zero, List.set_cons_succ])
 replace hr := hr.drew
 replace hc := hc.drew
 replace hA := hA.drew
 replace hb := hb.drew
 generalize W5.drew = W6 at *
 refine tk 0 hH ?_
 refine tk 1 hH ?_
 refine tk 2 hH ?_
 refine rd1 3 (fun K hK => ?_)
 have d0 : W6.cell? ⟨w.heap.size, 0, none⟩ = some (.int .i32 0) := hr.cell 0
 have z0 := hr.frozen 0
 have d1 : W6.cell? ⟨w.heap.size, 1, none⟩ = some (.int .i32 0) := hr.cell 1
 have z1 := hr.frozen 1
 have d2 : W6.cell? ⟨w.heap.size, 2, none⟩ = some (.int .i32 0) := hr.cell 2
 have z2 := hr.frozen 2
 go_simp
 try go_wp2_with fail
 replace hA := (((hA.fr (w.heap.size) 0 (by omega) (.int .i32 y0)).fr (w.heap.size) 1 (by omega) (.int .i32 y1)).fr (w.heap.size) 2 (by omega) (.int .i32 y2))
 replace hc := (((hc.fr (w.heap.size) 0 (by omega) (.int .i32 y0)).fr (w.heap.size) 1 (by omega) (.int .i32 y1)).fr (w.heap.size) 2 (by omega) (.int .i32 y2))
 replace hr := (((hr.set_ 0 (.int .i32 y0)).set_ 1 (.int .i32 y1)).set_ 2 (.int .i32 y2))
 replace hb := (((hb.sc (w.heap.size) 0 (by omega) (.int .i32 y0)).sc (w.heap.size) 1 (by omega) (.int .i32 y1)).sc (w.heap.size) 2 (by omega) (.int .i32 y2))
 clear d0 d1 d2 z0 z1 z2
 generalize (((W6.setCell ⟨w.heap.size, 0, none⟩ (.int .i32 y0)).setCell ⟨w.heap.size, 1, none⟩ (.int .i32 y1)).setCell ⟨w.heap.size, 2, none⟩ (.int .i32 y2)) = wf at *
 refine hK.out _ _ ⟨hA.cell 0, hA.cell 1, hA.cell 2, hc.cell 1⟩ (fun hH => ?_)
 clear hK K
 try (simp only [Act.put, List.setIfInBounds_toArray, List.set_cons_zero, List.set_cons_succ])
 refine tk 4 hH ?_
 refine wpAnyH_done ?hrz ?hqz _
 case hrz => kernel_rfl
 refine NoPanic.normal ?_
 try go_wp2_with fail
 have f0 : wf.cell? ⟨w.heap.size, 0, none⟩ = some (.int .i32 y0) := hr.cell 0
 have f1 : wf.cell? ⟨w.heap.size, 1, none⟩ = some (.int .i32 y1) := hr.cell 1
 have f2 : wf.cell? ⟨w.heap.size, 2, none⟩ = some (.int .i32 y2) := hr.cell 2
 try go_wp2
 simp [bodyPost, results, Tryz.results41, go_sem, f0, f1, f2]
 exact ⟨HNN.out.symm, hb⟩

set_option maxHeartbeats 8000000 in
theorem v_each_Sub (c1 c2 : Value) (V0 V1 V2 : Int) (w : World) (h0 : I64 V0) (h1 : I64 V1) (h2 : I64 V2) (hT : Tells 85 c1 c2 V0 V1 V2 w) :
  Calls Tryz.prog 41 #[.func (.func 85) #[] #[c1, c2]] w fun e w' =>
   e = .returned (.tuple #[.agg #[.int .i32 (clampP V0), .int .i32 (clampP V1), .int .i32 (clampP V2)], .int .i64 (cutC V0 + cutC V1 + cutC V2)]) ∧ Below w.heap.size w w' := by
 have hmf : ∀ (fn : Fn) (first cap : Array Value) (w : World), (Instr.makeFunc fn first cap).run Tryz.prog w = .ok (.func fn first cap) w := fun _ _ _ _ => rfl
 have T0 := hid (hT 0 V0 (.inl ⟨rfl, rfl⟩))
 have T1 := hid (hT 1 V1 (.inr (.inl ⟨rfl, rfl⟩)))
 have T2 := hid (hT 2 V2 (.inr (.inr ⟨rfl, rfl⟩)))
 clear hT
 have n0 := cutC_bd V0
 have n1 := cutC_bd V1
 have n2 := cutC_bd V2
 have X0 := hid fun g w (hB : Blk w g 109 #[.func (.func 47) #[] #[], .int .i64 0]) => c_cut g 0 V0 w h0 (by omega) hB
 have X1 := hid fun g w (hB : Blk w g 109 #[.func (.func 47) #[] #[], .int .i64 (0 + cutC V0)]) => c_cut g (0 + cutC V0) V1 w h1 (by omega) hB
 have X2 := hid fun g w (hB : Blk w g 109 #[.func (.func 47) #[] #[], .int .i64 (0 + cutC V0 + cutC V1)]) => c_cut g (0 + cutC V0 + cutC V1) V2 w h2 (by omega) hB
 have HN : Hid (0 + cutC V0 + cutC V1 + cutC V2 = cutC V0 + cutC V1 + cutC V2) := hid (by omega)
 generalize clampP V0 = y0 at *
 generalize clampP V1 = y1 at *
 generalize clampP V2 = y2 at *
 clear h0 h1 h2 n0 n1 n2
 have hr : Blk ((w.alloc (.cells #[.int .i32 0, .int .i32 0, .int .i32 0] 25)).alloc (.cells #[.func (.func 47) #[] #[], .int .i64 0] 109)) w.heap.size 25 #[.int .i32 0, .int .i32 0, .int .i32 0] := (Blk.new w _ _).alloc _
 have hc : Blk ((w.alloc (.cells #[.int .i32 0, .int .i32 0, .int .i32 0] 25)).alloc (.cells #[.func (.func 47) #[] #[], .int .i64 0] 109)) (w.heap.size + 1) 109 #[.func (.func 47) #[] #[], .int .i64 0] := by have := Blk.new (w.alloc (.cells #[.int .i32 0, .int .i32 0, .int .i32 0] 25)) 109 #[.func (.func 47) #[] #[], .int .i64 0]; simpa using this
 have hb : Below w.heap.size w ((w.alloc (.cells #[.int .i32 0, .int .i32 0, .int .i32 0] 25)).alloc (.cells #[.func (.func 47) #[] #[], .int .i64 0] 109)) := ((Below.refl _ w).alloc (Nat.le_refl _) _).alloc (by simp) _
 go_enter Tryz.func41, Tryz.ntmps41
 go_wp2_with fail
 generalize (w.alloc (.cells #[.int .i32 0, .int .i32 0, .int .i32 0] 25)).alloc (.cells #[.func (.func 47) #[] #[], .int .i64 0] 109) = W0 at *
 refine (T0.out _ hb).mono ?_
 rintro e wa0 ⟨rfl, b0⟩
 replace hr := hr.below b0 hr.lt
 replace hc := hc.below b0 hc.lt
 replace hb := hb.on b0
 go_wp2_with fail
 refine (X0.out _ _ hc).mono ?_
 rintro e wb0 ⟨rfl, hc', g0⟩
 replace hr := hr.grown g0 (by simp)
 replace hb := hb.grown g0 hb.size (fun k hk => by cases hk; omega)
 replace hc := hc'
 clear hc'
 go_wp2_with fail
 refine (T1.out _ hb).mono ?_
 rintro e wa1 ⟨rfl, b1⟩
 replace hr := hr.below b1 hr.lt
 replace hc := hc.below b1 hc.lt
 replace hb := hb.on b1
 go_wp2_with fail
 refine (X1.out _ _ hc).mono ?_
 rintro e wb1 ⟨rfl, hc', g1⟩
 replace hr := hr.grown g1 (by simp)
 replace hb := hb.grown g1 hb.size (fun k hk => by cases hk; omega)
 replace hc := hc'
 clear hc'
 go_wp2_with fail
 refine (T2.out _ hb).mono ?_
 rintro e wa2 ⟨rfl, b2⟩
 replace hr := hr.below b2 hr.lt
 replace hc := hc.below b2 hc.lt
 replace hb := hb.on b2
 go_wp2_with fail
 refine (X2.out _ _ hc).mono ?_
 rintro e wb2 ⟨rfl, hc', g2⟩
 replace hr := hr.grown g2 (by simp)
 replace hb := hb.grown g2 hb.size (fun k hk => by cases hk; omega)
 replace hc := hc'
 clear hc'
 rw [HN.out] at hc
 have e0 := hc.lt
 have hA := Blk.new wb2 25 #[.int .i32 y0, .int .i32 y1, .int .i32 y2]
 replace hr := hr.alloc (.cells #[.int .i32 y0, .int .i32 y1, .int .i32 y2] 25)
 replace hc := hc.alloc (.cells #[.int .i32 y0, .int .i32 y1, .int .i32 y2] 25)
 replace hb := hb.alloc hb.size (.cells #[.int .i32 y0, .int .i32 y1, .int .i32 y2] 25)
 go_upto_region 4 with fail
 generalize wb2.alloc (.cells #[.int .i32 y0, .int .i32 y1, .int .i32 y2] 25) = W5 at *
 generalize wb2.heap.size = gR at *
 generalize hNN : cutC V0 + cutC V1 + cutC V2 = N at *
 have HNN := hid hNN
 clear hNN
 refine wp_region_noPanic ?_
 refine wp_region_held_drew (S := (fun w' : World => w'.cell? ⟨gR, 0, none⟩ = some (.int .i32 y0) ∧ w'.cell? ⟨gR, 1, none⟩ = some (.int .i32 y1) ∧ w'.cell? ⟨gR, 2, none⟩ = some (.int .i32 y2) ∧ w'.cell? ⟨w.heap.size + 1, 1, none⟩ = some (.int .i64 N))) (by kernel_rfl) ⟨hA.cell 0, hA.cell 1, hA.cell 2, hc.cell 1⟩ (fun hH => ?_)
 refine (show wpAnyH _ _ _ _ _ 5 _ _ _ from ?_)
 try (simp only [Act.put, List.setIfInBounds_toArray, List.set_cons_zero, List.set_cons_succ])
 replace hr := hr.drew
 replace hc := hc.drew
 replace hA := hA.drew
 replace hb := hb.drew
 generalize W5.drew = W6 at *
 refine tk 0 hH ?_
 refine tk 1 hH ?_
 refine tk 2 hH ?_
 refine rd1 3 (fun K hK => ?_)
 have d0 : W6.cell? ⟨w.heap.size, 0, none⟩ = some (.int .i32 0) := hr.cell 0
 have z0 := hr.frozen 0
 have d1 : W6.cell? ⟨w.heap.size, 1, none⟩ = some (.int .i32 0) := hr.cell 1
 have z1 := hr.frozen 1
 have d2 : W6.cell? ⟨w.heap.size, 2, none⟩ = some (.int .i32 0) := hr.cell 2
 have z2 := hr.frozen 2
 go_simp
 try go_wp2_with fail
 replace hA := (((hA.fr (w.heap.size) 0 (by omega) (.int .i32 y0)).fr (w.heap.size) 1 (by omega) (.int .i32 y1)).fr (w.heap.size) 2 (by omega) (.int .i32 y2))
 replace hc := (((hc.fr (w.heap.size) 0 (by omega) (.int .i32 y0)).fr (w.heap.size) 1 (by omega) (.int .i32 y1)).fr (w.heap.size) 2 (by omega) (.int .i32 y2))
 replace hr := (((hr.set_ 0 (.int .i32 y0)).set_ 1 (.int .i32 y1)).set_ 2 (.int .i32 y2))
 replace hb := (((hb.sc (w.heap.size) 0 (by omega) (.int .i32 y0)).sc (w.heap.size) 1 (by omega) (.int .i32 y1)).sc (w.heap.size) 2 (by omega) (.int .i32 y2))
 clear d0 d1 d2 z0 z1 z2
 generalize (((W6.setCell ⟨w.heap.size, 0, none⟩ (.int .i32 y0)).setCell ⟨w.heap.size, 1, none⟩ (.int .i32 y1)).setCell ⟨w.heap.size, 2, none⟩ (.int .i32 y2)) = wf at *
 refine hK.out _ _ ⟨hA.cell 0, hA.cell 1, hA.cell 2, hc.cell 1⟩ (fun hH => ?_)
 clear hK K
 try (simp only [Act.put, List.setIfInBounds_toArray, List.set_cons_zero, List.set_cons_succ])
 refine tk 4 hH ?_
 refine wpAnyH_done ?hrz ?hqz _
 case hrz => kernel_rfl
 refine NoPanic.normal ?_
 try go_wp2_with fail
 have f0 : wf.cell? ⟨w.heap.size, 0, none⟩ = some (.int .i32 y0) := hr.cell 0
 have f1 : wf.cell? ⟨w.heap.size, 1, none⟩ = some (.int .i32 y1) := hr.cell 1
 have f2 : wf.cell? ⟨w.heap.size, 2, none⟩ = some (.int .i32 y2) := hr.cell 2
 try go_wp2
 simp [bodyPost, results, Tryz.results41, go_sem, f0, f1, f2]
 exact ⟨HNN.out.symm, hb⟩

set_option maxHeartbeats 8000000 in
theorem v_each_Scale (c1 c2 : Value) (V0 V1 V2 : Int) (w : World) (h0 : I64 V0) (h1 : I64 V1) (h2 : I64 V2) (hT : Tells 87 c1 c2 V0 V1 V2 w) :
  Calls Tryz.prog 41 #[.func (.func 87) #[] #[c1, c2]] w fun e w' =>
   e = .returned (.tuple #[.agg #[.int .i32 (clampP V0), .int .i32 (clampP V1), .int .i32 (clampP V2)], .int .i64 (cutC V0 + cutC V1 + cutC V2)]) ∧ Below w.heap.size w w' := by
 have hmf : ∀ (fn : Fn) (first cap : Array Value) (w : World), (Instr.makeFunc fn first cap).run Tryz.prog w = .ok (.func fn first cap) w := fun _ _ _ _ => rfl
 have T0 := hid (hT 0 V0 (.inl ⟨rfl, rfl⟩))
 have T1 := hid (hT 1 V1 (.inr (.inl ⟨rfl, rfl⟩)))
 have T2 := hid (hT 2 V2 (.inr (.inr ⟨rfl, rfl⟩)))
 clear hT
 have n0 := cutC_bd V0
 have n1 := cutC_bd V1
 have n2 := cutC_bd V2
 have X0 := hid fun g w (hB : Blk w g 109 #[.func (.func 47) #[] #[], .int .i64 0]) => c_cut g 0 V0 w h0 (by omega) hB
 have X1 := hid fun g w (hB : Blk w g 109 #[.func (.func 47) #[] #[], .int .i64 (0 + cutC V0)]) => c_cut g (0 + cutC V0) V1 w h1 (by omega) hB
 have X2 := hid fun g w (hB : Blk w g 109 #[.func (.func 47) #[] #[], .int .i64 (0 + cutC V0 + cutC V1)]) => c_cut g (0 + cutC V0 + cutC V1) V2 w h2 (by omega) hB
 have HN : Hid (0 + cutC V0 + cutC V1 + cutC V2 = cutC V0 + cutC V1 + cutC V2) := hid (by omega)
 generalize clampP V0 = y0 at *
 generalize clampP V1 = y1 at *
 generalize clampP V2 = y2 at *
 clear h0 h1 h2 n0 n1 n2
 have hr : Blk ((w.alloc (.cells #[.int .i32 0, .int .i32 0, .int .i32 0] 25)).alloc (.cells #[.func (.func 47) #[] #[], .int .i64 0] 109)) w.heap.size 25 #[.int .i32 0, .int .i32 0, .int .i32 0] := (Blk.new w _ _).alloc _
 have hc : Blk ((w.alloc (.cells #[.int .i32 0, .int .i32 0, .int .i32 0] 25)).alloc (.cells #[.func (.func 47) #[] #[], .int .i64 0] 109)) (w.heap.size + 1) 109 #[.func (.func 47) #[] #[], .int .i64 0] := by have := Blk.new (w.alloc (.cells #[.int .i32 0, .int .i32 0, .int .i32 0] 25)) 109 #[.func (.func 47) #[] #[], .int .i64 0]; simpa using this
 have hb : Below w.heap.size w ((w.alloc (.cells #[.int .i32 0, .int .i32 0, .int .i32 0] 25)).alloc (.cells #[.func (.func 47) #[] #[], .int .i64 0] 109)) := ((Below.refl _ w).alloc (Nat.le_refl _) _).alloc (by simp) _
 go_enter Tryz.func41, Tryz.ntmps41
 go_wp2_with fail
 generalize (w.alloc (.cells #[.int .i32 0, .int .i32 0, .int .i32 0] 25)).alloc (.cells #[.func (.func 47) #[] #[], .int .i64 0] 109) = W0 at *
 refine (T0.out _ hb).mono ?_
 rintro e wa0 ⟨rfl, b0⟩
 replace hr := hr.below b0 hr.lt
 replace hc := hc.below b0 hc.lt
 replace hb := hb.on b0
 go_wp2_with fail
 refine (X0.out _ _ hc).mono ?_
 rintro e wb0 ⟨rfl, hc', g0⟩
 replace hr := hr.grown g0 (by simp)
 replace hb := hb.grown g0 hb.size (fun k hk => by cases hk; omega)
 replace hc := hc'
 clear hc'
 go_wp2_with fail
 refine (T1.out _ hb).mono ?_
 rintro e wa1 ⟨rfl, b1⟩
 replace hr := hr.below b1 hr.lt
 replace hc := hc.below b1 hc.lt
 replace hb := hb.on b1
 go_wp2_with fail
 refine (X1.out _ _ hc).mono ?_
 rintro e wb1 ⟨rfl, hc', g1⟩
 replace hr := hr.grown g1 (by simp)
 replace hb := hb.grown g1 hb.size (fun k hk => by cases hk; omega)
 replace hc := hc'
 clear hc'
 go_wp2_with fail
 refine (T2.out _ hb).mono ?_
 rintro e wa2 ⟨rfl, b2⟩
 replace hr := hr.below b2 hr.lt
 replace hc := hc.below b2 hc.lt
 replace hb := hb.on b2
 go_wp2_with fail
 refine (X2.out _ _ hc).mono ?_
 rintro e wb2 ⟨rfl, hc', g2⟩
 replace hr := hr.grown g2 (by simp)
 replace hb := hb.grown g2 hb.size (fun k hk => by cases hk; omega)
 replace hc := hc'
 clear hc'
 rw [HN.out] at hc
 have e0 := hc.lt
 have hA := Blk.new wb2 25 #[.int .i32 y0, .int .i32 y1, .int .i32 y2]
 replace hr := hr.alloc (.cells #[.int .i32 y0, .int .i32 y1, .int .i32 y2] 25)
 replace hc := hc.alloc (.cells #[.int .i32 y0, .int .i32 y1, .int .i32 y2] 25)
 replace hb := hb.alloc hb.size (.cells #[.int .i32 y0, .int .i32 y1, .int .i32 y2] 25)
 go_upto_region 4 with fail
 generalize wb2.alloc (.cells #[.int .i32 y0, .int .i32 y1, .int .i32 y2] 25) = W5 at *
 generalize wb2.heap.size = gR at *
 generalize hNN : cutC V0 + cutC V1 + cutC V2 = N at *
 have HNN := hid hNN
 clear hNN
 refine wp_region_noPanic ?_
 refine wp_region_held_drew (S := (fun w' : World => w'.cell? ⟨gR, 0, none⟩ = some (.int .i32 y0) ∧ w'.cell? ⟨gR, 1, none⟩ = some (.int .i32 y1) ∧ w'.cell? ⟨gR, 2, none⟩ = some (.int .i32 y2) ∧ w'.cell? ⟨w.heap.size + 1, 1, none⟩ = some (.int .i64 N))) (by kernel_rfl) ⟨hA.cell 0, hA.cell 1, hA.cell 2, hc.cell 1⟩ (fun hH => ?_)
 refine (show wpAnyH _ _ _ _ _ 5 _ _ _ from ?_)
 try (simp only [Act.put, List.setIfInBounds_toArray, List.set_cons_zero, List.set_cons_succ])
 replace hr := hr.drew
 replace hc := hc.drew
 replace hA := hA.drew
 replace hb := hb.drew
 generalize W5.drew = W6 at *
 refine tk 0 hH ?_
 refine tk 1 hH ?_
 refine tk 2 hH ?_
 refine rd1 3 (fun K hK => ?_)
 have d0 : W6.cell? ⟨w.heap.size, 0, none⟩ = some (.int .i32 0) := hr.cell 0
 have z0 := hr.frozen 0
 have d1 : W6.cell? ⟨w.heap.size, 1, none⟩ = some (.int .i32 0) := hr.cell 1
 have z1 := hr.frozen 1
 have d2 : W6.cell? ⟨w.heap.size, 2, none⟩ = some (.int .i32 0) := hr.cell 2
 have z2 := hr.frozen 2
 go_simp
 try go_wp2_with fail
 replace hA := (((hA.fr (w.heap.size) 0 (by omega) (.int .i32 y0)).fr (w.heap.size) 1 (by omega) (.int .i32 y1)).fr (w.heap.size) 2 (by omega) (.int .i32 y2))
 replace hc := (((hc.fr (w.heap.size) 0 (by omega) (.int .i32 y0)).fr (w.heap.size) 1 (by omega) (.int .i32 y1)).fr (w.heap.size) 2 (by omega) (.int .i32 y2))
 replace hr := (((hr.set_ 0 (.int .i32 y0)).set_ 1 (.int .i32 y1)).set_ 2 (.int .i32 y2))
 replace hb := (((hb.sc (w.heap.size) 0 (by omega) (.int .i32 y0)).sc (w.heap.size) 1 (by omega) (.int .i32 y1)).sc (w.heap.size) 2 (by omega) (.int .i32 y2))
 clear d0 d1 d2 z0 z1 z2
 generalize (((W6.setCell ⟨w.heap.size, 0, none⟩ (.int .i32 y0)).setCell ⟨w.heap.size, 1, none⟩ (.int .i32 y1)).setCell ⟨w.heap.size, 2, none⟩ (.int .i32 y2)) = wf at *
 refine hK.out _ _ ⟨hA.cell 0, hA.cell 1, hA.cell 2, hc.cell 1⟩ (fun hH => ?_)
 clear hK K
 try (simp only [Act.put, List.setIfInBounds_toArray, List.set_cons_zero, List.set_cons_succ])
 refine tk 4 hH ?_
 refine wpAnyH_done ?hrz ?hqz _
 case hrz => kernel_rfl
 refine NoPanic.normal ?_
 try go_wp2_with fail
 have f0 : wf.cell? ⟨w.heap.size, 0, none⟩ = some (.int .i32 y0) := hr.cell 0
 have f1 : wf.cell? ⟨w.heap.size, 1, none⟩ = some (.int .i32 y1) := hr.cell 1
 have f2 : wf.cell? ⟨w.heap.size, 2, none⟩ = some (.int .i32 y2) := hr.cell 2
 try go_wp2
 simp [bodyPost, results, Tryz.results41, go_sem, f0, f1, f2]
 exact ⟨HNN.out.symm, hb⟩

set_option maxHeartbeats 8000000 in
theorem v_each_Unit (c1 c2 : Value) (V0 V1 V2 : Int) (w : World) (h0 : I64 V0) (h1 : I64 V1) (h2 : I64 V2) (hT : Tells 42 c1 c2 V0 V1 V2 w) :
  Calls Tryz.prog 41 #[.func (.func 42) #[] #[c1, c2]] w fun e w' =>
   e = .returned (.tuple #[.agg #[.int .i32 (clampP V0), .int .i32 (clampP V1), .int .i32 (clampP V2)], .int .i64 (cutC V0 + cutC V1 + cutC V2)]) ∧ Below w.heap.size w w' := by
 have hmf : ∀ (fn : Fn) (first cap : Array Value) (w : World), (Instr.makeFunc fn first cap).run Tryz.prog w = .ok (.func fn first cap) w := fun _ _ _ _ => rfl
 have T0 := hid (hT 0 V0 (.inl ⟨rfl, rfl⟩))
 have T1 := hid (hT 1 V1 (.inr (.inl ⟨rfl, rfl⟩)))
 have T2 := hid (hT 2 V2 (.inr (.inr ⟨rfl, rfl⟩)))
 clear hT
 have n0 := cutC_bd V0
 have n1 := cutC_bd V1
 have n2 := cutC_bd V2
 have X0 := hid fun g w (hB : Blk w g 109 #[.func (.func 47) #[] #[], .int .i64 0]) => c_cut g 0 V0 w h0 (by omega) hB
 have X1 := hid fun g w (hB : Blk w g 109 #[.func (.func 47) #[] #[], .int .i64 (0 + cutC V0)]) => c_cut g (0 + cutC V0) V1 w h1 (by omega) hB
 have X2 := hid fun g w (hB : Blk w g 109 #[.func (.func 47) #[] #[], .int .i64 (0 + cutC V0 + cutC V1)]) => c_cut g (0 + cutC V0 + cutC V1) V2 w h2 (by omega) hB
 have HN : Hid (0 + cutC V0 + cutC V1 + cutC V2 = cutC V0 + cutC V1 + cutC V2) := hid (by omega)
 generalize clampP V0 = y0 at *
 generalize clampP V1 = y1 at *
 generalize clampP V2 = y2 at *
 clear h0 h1 h2 n0 n1 n2
 have hr : Blk ((w.alloc (.cells #[.int .i32 0, .int .i32 0, .int .i32 0] 25)).alloc (.cells #[.func (.func 47) #[] #[], .int .i64 0] 109)) w.heap.size 25 #[.int .i32 0, .int .i32 0, .int .i32 0] := (Blk.new w _ _).alloc _
 have hc : Blk ((w.alloc (.cells #[.int .i32 0, .int .i32 0, .int .i32 0] 25)).alloc (.cells #[.func (.func 47) #[] #[], .int .i64 0] 109)) (w.heap.size + 1) 109 #[.func (.func 47) #[] #[], .int .i64 0] := by have := Blk.new (w.alloc (.cells #[.int .i32 0, .int .i32 0, .int .i32 0] 25)) 109 #[.func (.func 47) #[] #[], .int .i64 0]; simpa using this
 have hb : Below w.heap.size w ((w.alloc (.cells #[.int .i32 0, .int .i32 0, .int .i32 0] 25)).alloc (.cells #[.func (.func 47) #[] #[], .int .i64 0] 109)) := ((Below.refl _ w).alloc (Nat.le_refl _) _).alloc (by simp) _
 go_enter Tryz.func41, Tryz.ntmps41
 go_wp2_with fail
 generalize (w.alloc (.cells #[.int .i32 0, .int .i32 0, .int .i32 0] 25)).alloc (.cells #[.func (.func 47) #[] #[], .int .i64 0] 109) = W0 at *
 refine (T0.out _ hb).mono ?_
 rintro e wa0 ⟨rfl, b0⟩
 replace hr := hr.below b0 hr.lt
 replace hc := hc.below b0 hc.lt
 replace hb := hb.on b0
 go_wp2_with fail
 refine (X0.out _ _ hc).mono ?_
 rintro e wb0 ⟨rfl, hc', g0⟩
 replace hr := hr.grown g0 (by simp)
 replace hb := hb.grown g0 hb.size (fun k hk => by cases hk; omega)
 replace hc := hc'
 clear hc'
 go_wp2_with fail
 refine (T1.out _ hb).mono ?_
 rintro e wa1 ⟨rfl, b1⟩
 replace hr := hr.below b1 hr.lt
 replace hc := hc.below b1 hc.lt
 replace hb := hb.on b1
 go_wp2_with fail
 refine (X1.out _ _ hc).mono ?_
 rintro e wb1 ⟨rfl, hc', g1⟩
 replace hr := hr.grown g1 (by simp)
 replace hb := hb.grown g1 hb.size (fun k hk => by cases hk; omega)
 replace hc := hc'
 clear hc'
 go_wp2_with fail
 refine (T2.out _ hb).mono ?_
 rintro e wa2 ⟨rfl, b2⟩
 replace hr := hr.below b2 hr.lt
 replace hc := hc.below b2 hc.lt
 replace hb := hb.on b2
 go_wp2_with fail
 refine (X2.out _ _ hc).mono ?_
 rintro e wb2 ⟨rfl, hc', g2⟩
 replace hr := hr.grown g2 (by simp)
 replace hb := hb.grown g2 hb.size (fun k hk => by cases hk; omega)
 replace hc := hc'
 clear hc'
 rw [HN.out] at hc
 have e0 := hc.lt
 have hA := Blk.new wb2 25 #[.int .i32 y0, .int .i32 y1, .int .i32 y2]
 replace hr := hr.alloc (.cells #[.int .i32 y0, .int .i32 y1, .int .i32 y2] 25)
 replace hc := hc.alloc (.cells #[.int .i32 y0, .int .i32 y1, .int .i32 y2] 25)
 replace hb := hb.alloc hb.size (.cells #[.int .i32 y0, .int .i32 y1, .int .i32 y2] 25)
 go_upto_region 4 with fail
 generalize wb2.alloc (.cells #[.int .i32 y0, .int .i32 y1, .int .i32 y2] 25) = W5 at *
 generalize wb2.heap.size = gR at *
 generalize hNN : cutC V0 + cutC V1 + cutC V2 = N at *
 have HNN := hid hNN
 clear hNN
 refine wp_region_noPanic ?_
 refine wp_region_held_drew (S := (fun w' : World => w'.cell? ⟨gR, 0, none⟩ = some (.int .i32 y0) ∧ w'.cell? ⟨gR, 1, none⟩ = some (.int .i32 y1) ∧ w'.cell? ⟨gR, 2, none⟩ = some (.int .i32 y2) ∧ w'.cell? ⟨w.heap.size + 1, 1, none⟩ = some (.int .i64 N))) (by kernel_rfl) ⟨hA.cell 0, hA.cell 1, hA.cell 2, hc.cell 1⟩ (fun hH => ?_)
 refine (show wpAnyH _ _ _ _ _ 5 _ _ _ from ?_)
 try (simp only [Act.put, List.setIfInBounds_toArray, List.set_cons_zero, List.set_cons_succ])
 replace hr := hr.drew
 replace hc := hc.drew
 replace hA := hA.drew
 replace hb := hb.drew
 generalize W5.drew = W6 at *
 refine tk 0 hH ?_
 refine tk 1 hH ?_
 refine tk 2 hH ?_
 refine rd1 3 (fun K hK => ?_)
 have d0 : W6.cell? ⟨w.heap.size, 0, none⟩ = some (.int .i32 0) := hr.cell 0
 have z0 := hr.frozen 0
 have d1 : W6.cell? ⟨w.heap.size, 1, none⟩ = some (.int .i32 0) := hr.cell 1
 have z1 := hr.frozen 1
 have d2 : W6.cell? ⟨w.heap.size, 2, none⟩ = some (.int .i32 0) := hr.cell 2
 have z2 := hr.frozen 2
 go_simp
 try go_wp2_with fail
 replace hA := (((hA.fr (w.heap.size) 0 (by omega) (.int .i32 y0)).fr (w.heap.size) 1 (by omega) (.int .i32 y1)).fr (w.heap.size) 2 (by omega) (.int .i32 y2))
 replace hc := (((hc.fr (w.heap.size) 0 (by omega) (.int .i32 y0)).fr (w.heap.size) 1 (by omega) (.int .i32 y1)).fr (w.heap.size) 2 (by omega) (.int .i32 y2))
 replace hr := (((hr.set_ 0 (.int .i32 y0)).set_ 1 (.int .i32 y1)).set_ 2 (.int .i32 y2))
 replace hb := (((hb.sc (w.heap.size) 0 (by omega) (.int .i32 y0)).sc (w.heap.size) 1 (by omega) (.int .i32 y1)).sc (w.heap.size) 2 (by omega) (.int .i32 y2))
 clear d0 d1 d2 z0 z1 z2
 generalize (((W6.setCell ⟨w.heap.size, 0, none⟩ (.int .i32 y0)).setCell ⟨w.heap.size, 1, none⟩ (.int .i32 y1)).setCell ⟨w.heap.size, 2, none⟩ (.int .i32 y2)) = wf at *
 refine hK.out _ _ ⟨hA.cell 0, hA.cell 1, hA.cell 2, hc.cell 1⟩ (fun hH => ?_)
 clear hK K
 try (simp only [Act.put, List.setIfInBounds_toArray, List.set_cons_zero, List.set_cons_succ])
 refine tk 4 hH ?_
 refine wpAnyH_done ?hrz ?hqz _
 case hrz => kernel_rfl
 refine NoPanic.normal ?_
 try go_wp2_with fail
 have f0 : wf.cell? ⟨w.heap.size, 0, none⟩ = some (.int .i32 y0) := hr.cell 0
 have f1 : wf.cell? ⟨w.heap.size, 1, none⟩ = some (.int .i32 y1) := hr.cell 1
 have f2 : wf.cell? ⟨w.heap.size, 2, none⟩ = some (.int .i32 y2) := hr.cell 2
 try go_wp2
 simp [bodyPost, results, Tryz.results41, go_sem, f0, f1, f2]
 exact ⟨HNN.out.symm, hb⟩
end Go.Proofs.YtgmepohfkpncmaaGreat
