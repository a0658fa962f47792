/- Chapter 13: the document's answer, a step. -/
import Derived.Test.YtgmepohfkpncmaaGreatTurnR
namespace Go.Proofs.YtgmepohfkpncmaaGreat
open Go.RowKit
set_option linter.unusedVariables false
set_option linter.unusedSimpArgs false

theorem r10_One (w : World) :
  Calls Tryz.prog 16 #[] w fun e w' => e = .returned (.agg #[.int .i32 1073741824, .int .i32 0, .int .i32 0, .int .i32 0]) ∧ Below w.heap.size w w' := by
 go_enter Tryz.func16, Tryz.ntmps16
 go_wp2
 simp [bodyPost, results, Tryz.results16, go_sem]
 exact (Below.refl _ w).alloc (Nat.le_refl _) _
set_option maxRecDepth 20000 in
set_option maxHeartbeats 16000000 in
theorem r13_Step (q0 q1 q2 q3 r0 r1 r2 dt : Int) (w : World) (iq0 : I32 q0) (iq1 : I32 q1) (iq2 : I32 q2) (iq3 : I32 q3) (ir0 : I32 r0) (ir1 : I32 r1) (ir2 : I32 r2) (idt : I32 dt) :
  Calls Tryz.prog 34 #[.agg #[.int .i32 q0, .int .i32 q1, .int .i32 q2, .int .i32 q3], .agg #[.int .i32 r0, .int .i32 r1, .int .i32 r2], .int .i32 dt] w (Steps q0 q1 q2 q3 r0 r1 r2 dt w) := by
 have HPost : Hid (∀ e w', e = .returned (.tuple #[.agg #[.int .i32 (stO (stL q0 q1 q2 q3 r0 r1 r2 dt) (stP 0 q0 q1 q2 q3 r0 r1 r2 dt) 1073741824), .int .i32 (stO (stL q0 q1 q2 q3 r0 r1 r2 dt) (stP 1 q0 q1 q2 q3 r0 r1 r2 dt) 0), .int .i32 (stO (stL q0 q1 q2 q3 r0 r1 r2 dt) (stP 2 q0 q1 q2 q3 r0 r1 r2 dt) 0), .int .i32 (stO (stL q0 q1 q2 q3 r0 r1 r2 dt) (stP 3 q0 q1 q2 q3 r0 r1 r2 dt) 0)], .int .i64 (stN q0 q1 q2 q3 r0 r1 r2 dt + (if 0 < farP (stL q0 q1 q2 q3 r0 r1 r2 dt) then 0 else 1))]) ∧ Below w.heap.size w w' → Steps q0 q1 q2 q3 r0 r1 r2 dt w e w') := fun e w' h => h
 have sb0 := st_bd r0 dt ir0 idt
 have sb1 := st_bd r1 dt ir1 idt
 have sb2 := st_bd r2 dt ir2 idt
 have HR0 := hid fun w => fxr_Round (r0 * dt) 3 w sb0.1 (by unfold I64; omega)
 change Hid (∀ w, Calls _ _ _ _ fun e w' => e = .returned (.int .i64 (stH r0 dt)) ∧ w = w') at HR0
 have ub0 : IntKind.i64.wrap (r0 * dt) = r0 * dt := IntWalk.i64_in _ sb0.1
 have uc0 : IntKind.i64.wrap r0 = r0 := IntWalk.i64_in _ (by unfold I32 at *; omega)
 have HR1 := hid fun w => fxr_Round (r1 * dt) 3 w sb1.1 (by unfold I64; omega)
 change Hid (∀ w, Calls _ _ _ _ fun e w' => e = .returned (.int .i64 (stH r1 dt)) ∧ w = w') at HR1
 have ub1 : IntKind.i64.wrap (r1 * dt) = r1 * dt := IntWalk.i64_in _ sb1.1
 have uc1 : IntKind.i64.wrap r1 = r1 := IntWalk.i64_in _ (by unfold I32 at *; omega)
 have HR2 := hid fun w => fxr_Round (r2 * dt) 3 w sb2.1 (by unfold I64; omega)
 change Hid (∀ w, Calls _ _ _ _ fun e w' => e = .returned (.int .i64 (stH r2 dt)) ∧ w = w') at HR2
 have ub2 : IntKind.i64.wrap (r2 * dt) = r2 * dt := IntWalk.i64_in _ sb2.1
 have uc2 : IntKind.i64.wrap r2 = r2 := IntWalk.i64_in _ (by unfold I32 at *; omega)
 have ud : IntKind.i64.wrap dt = dt := IntWalk.i64_in _ (by unfold I32 at *; omega)
 have HC := hid fun (w : World) => r9_Cut (stH r0 dt) (stH r1 dt) (stH r2 dt) w sb0.2 sb1.2 sb2.2
 have e0 : stP 0 q0 q1 q2 q3 r0 r1 r2 dt = clampP (mulW q0 q1 q2 q3 1073741824 (clampP (stH r0 dt)) (clampP (stH r1 dt)) (clampP (stH r2 dt))) := rfl
 have e1 : stP 1 q0 q1 q2 q3 r0 r1 r2 dt = clampP (mulX q0 q1 q2 q3 1073741824 (clampP (stH r0 dt)) (clampP (stH r1 dt)) (clampP (stH r2 dt))) := rfl
 have e2 : stP 2 q0 q1 q2 q3 r0 r1 r2 dt = clampP (mulY q0 q1 q2 q3 1073741824 (clampP (stH r0 dt)) (clampP (stH r1 dt)) (clampP (stH r2 dt))) := rfl
 have e3 : stP 3 q0 q1 q2 q3 r0 r1 r2 dt = clampP (mulZ q0 q1 q2 q3 1073741824 (clampP (stH r0 dt)) (clampP (stH r1 dt)) (clampP (stH r2 dt))) := rfl
 have eN : stN q0 q1 q2 q3 r0 r1 r2 dt = (cutC (stH r0 dt) + cutC (stH r1 dt) + cutC (stH r2 dt)) + (cutC (mulW q0 q1 q2 q3 1073741824 (clampP (stH r0 dt)) (clampP (stH r1 dt)) (clampP (stH r2 dt))) + cutC (mulX q0 q1 q2 q3 1073741824 (clampP (stH r0 dt)) (clampP (stH r1 dt)) (clampP (stH r2 dt))) + cutC (mulY q0 q1 q2 q3 1073741824 (clampP (stH r0 dt)) (clampP (stH r1 dt)) (clampP (stH r2 dt))) + cutC (mulZ q0 q1 q2 q3 1073741824 (clampP (stH r0 dt)) (clampP (stH r1 dt)) (clampP (stH r2 dt)))) := rfl
 have eL : stL q0 q1 q2 q3 r0 r1 r2 dt = [stP 0 q0 q1 q2 q3 r0 r1 r2 dt, stP 1 q0 q1 q2 q3 r0 r1 r2 dt, stP 2 q0 q1 q2 q3 r0 r1 r2 dt, stP 3 q0 q1 q2 q3 r0 r1 r2 dt] := rfl
 have n0 := cutC_bd (stH r0 dt)
 have ih0 := clampP_bd (stH r0 dt)
 generalize cutC (stH r0 dt) = k0 at *
 generalize clampP (stH r0 dt) = h0 at *
 have n1 := cutC_bd (stH r1 dt)
 have ih1 := clampP_bd (stH r1 dt)
 generalize cutC (stH r1 dt) = k1 at *
 generalize clampP (stH r1 dt) = h1 at *
 have n2 := cutC_bd (stH r2 dt)
 have ih2 := clampP_bd (stH r2 dt)
 generalize cutC (stH r2 dt) = k2 at *
 generalize clampP (stH r2 dt) = h2 at *
 generalize stH r0 dt = t0 at *
 generalize stH r1 dt = t1 at *
 generalize stH r2 dt = t2 at *
 have hM := fun w => r10_Mul q0 q1 q2 q3 1073741824 h0 h1 h2 w iq0 iq1 iq2 iq3 (by unfold I32; omega) ih0 ih1 ih2
 unfold Muls at hM
 rw [← e0] at hM
 have m0 := cutC_bd (mulW q0 q1 q2 q3 1073741824 h0 h1 h2)
 generalize cutC (mulW q0 q1 q2 q3 1073741824 h0 h1 h2) = c0 at *
 rw [← e1] at hM
 have m1 := cutC_bd (mulX q0 q1 q2 q3 1073741824 h0 h1 h2)
 generalize cutC (mulX q0 q1 q2 q3 1073741824 h0 h1 h2) = c1 at *
 rw [← e2] at hM
 have m2 := cutC_bd (mulY q0 q1 q2 q3 1073741824 h0 h1 h2)
 generalize cutC (mulY q0 q1 q2 q3 1073741824 h0 h1 h2) = c2 at *
 rw [← e3] at hM
 have m3 := cutC_bd (mulZ q0 q1 q2 q3 1073741824 h0 h1 h2)
 generalize cutC (mulZ q0 q1 q2 q3 1073741824 h0 h1 h2) = c3 at *
 have ip0 : I32 (stP 0 q0 q1 q2 q3 r0 r1 r2 dt) := clampP_bd _
 clear e0
 have ip1 : I32 (stP 1 q0 q1 q2 q3 r0 r1 r2 dt) := clampP_bd _
 clear e1
 have ip2 : I32 (stP 2 q0 q1 q2 q3 r0 r1 r2 dt) := clampP_bd _
 clear e2
 have ip3 : I32 (stP 3 q0 q1 q2 q3 r0 r1 r2 dt) := clampP_bd _
 clear e3
 generalize stP 0 q0 q1 q2 q3 r0 r1 r2 dt = p0 at *
 generalize stP 1 q0 q1 q2 q3 r0 r1 r2 dt = p1 at *
 generalize stP 2 q0 q1 q2 q3 r0 r1 r2 dt = p2 at *
 generalize stP 3 q0 q1 q2 q3 r0 r1 r2 dt = p3 at *
 generalize stN q0 q1 q2 q3 r0 r1 r2 dt = NN at *
 generalize stL q0 q1 q2 q3 r0 r1 r2 dt = LL at *
 subst eL
 have hK := fun w => r11_Make p0 p1 p2 p3 w ip0 ip1 ip2 ip3
 unfold Makes at hK
 have HO : Hid (∀ x z, stO [p0, p1, p2, p3] x z = if 0 < farP [p0, p1, p2, p3] then makeP [p0, p1, p2, p3] x else z) := fun _ _ => rfl
 generalize hs0 : makeP [p0, p1, p2, p3] p0 = s0 at hK
 have HS0 := hid hs0
 clear hs0
 generalize hs1 : makeP [p0, p1, p2, p3] p1 = s1 at hK
 have HS1 := hid hs1
 clear hs1
 generalize hs2 : makeP [p0, p1, p2, p3] p2 = s2 at hK
 have HS2 := hid hs2
 clear hs2
 generalize hs3 : makeP [p0, p1, p2, p3] p3 = s3 at hK
 have HS3 := hid hs3
 clear hs3
 have HMM := hid hM
 have HKK0 := hid hK
 clear hM hK
 generalize hA : k0 + k1 + k2 = A at *
 generalize hB : c0 + c1 + c2 + c3 = B at *
 have hAB : 0 ≤ A ∧ A ≤ 3 ∧ 0 ≤ B ∧ B ≤ 4 := by omega
 have uAB : IntKind.i64.wrap (A + B) = A + B := IntWalk.i64_in _ (by omega)
 have uAB1 : IntKind.i64.wrap (A + B + 1) = A + B + 1 := IntWalk.i64_in _ (by omega)
 have EN := hid eN
 clear eN hA hB hAB n0 n1 n2 ih0 ih1 ih2 m0 m1 m2 m3 ip0 ip1 ip2 ip3 sb0 sb1 sb2 iq0 iq1 iq2 iq3 ir0 ir1 ir2 idt
 have hq : Blk (((w.alloc (.cells #[.int .i32 q0, .int .i32 q1, .int .i32 q2, .int .i32 q3] 23)).alloc (.cells #[.int .i32 r0, .int .i32 r1, .int .i32 r2] 25)).alloc (.cells #[.int .i32 0, .int .i32 0, .int .i32 0, .int .i32 0] 23)) w.heap.size 23 #[.int .i32 q0, .int .i32 q1, .int .i32 q2, .int .i32 q3] := ((Blk.new w _ _).alloc _).alloc _
 have hr : Blk (((w.alloc (.cells #[.int .i32 q0, .int .i32 q1, .int .i32 q2, .int .i32 q3] 23)).alloc (.cells #[.int .i32 r0, .int .i32 r1, .int .i32 r2] 25)).alloc (.cells #[.int .i32 0, .int .i32 0, .int .i32 0, .int .i32 0] 23)) (w.heap.size + 1) 25 #[.int .i32 r0, .int .i32 r1, .int .i32 r2] := by have := (Blk.new (w.alloc (.cells #[.int .i32 q0, .int .i32 q1, .int .i32 q2, .int .i32 q3] 23)) 25 #[.int .i32 r0, .int .i32 r1, .int .i32 r2]).alloc (.cells #[.int .i32 0, .int .i32 0, .int .i32 0, .int .i32 0] 23); simpa using this
 have hz : Blk (((w.alloc (.cells #[.int .i32 q0, .int .i32 q1, .int .i32 q2, .int .i32 q3] 23)).alloc (.cells #[.int .i32 r0, .int .i32 r1, .int .i32 r2] 25)).alloc (.cells #[.int .i32 0, .int .i32 0, .int .i32 0, .int .i32 0] 23)) (w.heap.size + 1 + 1) 23 #[.int .i32 0, .int .i32 0, .int .i32 0, .int .i32 0] := by have := Blk.new ((w.alloc (.cells #[.int .i32 q0, .int .i32 q1, .int .i32 q2, .int .i32 q3] 23)).alloc (.cells #[.int .i32 r0, .int .i32 r1, .int .i32 r2] 25)) 23 #[.int .i32 0, .int .i32 0, .int .i32 0, .int .i32 0]; simpa using this
 have hb : Below w.heap.size w (((w.alloc (.cells #[.int .i32 q0, .int .i32 q1, .int .i32 q2, .int .i32 q3] 23)).alloc (.cells #[.int .i32 r0, .int .i32 r1, .int .i32 r2] 25)).alloc (.cells #[.int .i32 0, .int .i32 0, .int .i32 0, .int .i32 0] 23)) := (((Below.refl _ w).alloc (Nat.le_refl _) _).alloc (by simp) _).alloc (by simp; omega) _
 go_enter Tryz.func34, Tryz.ntmps34
 go_upto_region 2 with fail
 generalize ((w.alloc (.cells #[.int .i32 q0, .int .i32 q1, .int .i32 q2, .int .i32 q3] 23)).alloc (.cells #[.int .i32 r0, .int .i32 r1, .int .i32 r2] 25)).alloc (.cells #[.int .i32 0, .int .i32 0, .int .i32 0, .int .i32 0] 23) = W0 at *
 go_cut [9, 10] from 17 to 38 (fun pp mm wx => ∃ g : Nat, pp = .pointer (some ⟨g, 0, none⟩) ∧ mm = .int .i64 A ∧ Blk wx g 25 #[.int .i32 h0, .int .i32 h1, .int .i32 h2] ∧ Blk wx w.heap.size 23 #[.int .i32 q0, .int .i32 q1, .int .i32 q2, .int .i32 q3] ∧ Blk wx (w.heap.size + 1 + 1) 23 #[.int .i32 0, .int .i32 0, .int .i32 0, .int .i32 0] ∧ Below w.heap.size w wx)
 case first =>
  refine wp_region_noPanic ?_
  refine wp_region_held_drew (S := (fun w' : World => w'.cell? ⟨w.heap.size, 0, none⟩ = some (.int .i32 q0) ∧ w'.cell? ⟨w.heap.size, 1, none⟩ = some (.int .i32 q1) ∧ w'.cell? ⟨w.heap.size, 2, none⟩ = some (.int .i32 q2) ∧ w'.cell? ⟨w.heap.size, 3, none⟩ = some (.int .i32 q3) ∧ w'.cell? ⟨w.heap.size + 1, 0, none⟩ = some (.int .i32 r0) ∧ w'.cell? ⟨w.heap.size + 1, 1, none⟩ = some (.int .i32 r1) ∧ w'.cell? ⟨w.heap.size + 1, 2, none⟩ = some (.int .i32 r2) ∧ w'.cell? ⟨w.heap.size + 1 + 1, 0, none⟩ = some (.int .i32 0) ∧ w'.cell? ⟨w.heap.size + 1 + 1, 1, none⟩ = some (.int .i32 0) ∧ w'.cell? ⟨w.heap.size + 1 + 1, 2, none⟩ = some (.int .i32 0) ∧ w'.cell? ⟨w.heap.size + 1 + 1, 3, none⟩ = some (.int .i32 0))) (by kernel_rfl) ⟨hq.cell 0, hq.cell 1, hq.cell 2, hq.cell 3, hr.cell 0, hr.cell 1, hr.cell 2, hz.cell 0, hz.cell 1, hz.cell 2, hz.cell 3⟩ (fun hH => ?_)
  refine (show wpAnyH _ _ _ _ _ 25 _ _ _ from ?_)
  try (simp only [Act.put, List.setIfInBounds_toArray, List.set_cons_zero, List.set_cons_succ])
  replace hq := hq.drew
  replace hr := hr.drew
  replace hz := hz.drew
  replace hb := hb.drew
  generalize W0.drew = W10 at *
  refine tk 0 hH ?_
  refine tk 1 hH ?_
  refine tk 2 hH ?_
  refine tk 3 hH ?_
  refine tk 4 hH ?_
  refine tk 6 hH ?_
  refine tk 7 hH ?_
  refine tk 8 hH ?_
  refine tk 9 hH ?_
  refine tk 10 hH ?_
  refine tk 12 hH ?_
  refine tk 13 hH ?_
  refine tk 14 hH ?_
  refine tk 15 hH ?_
  refine tk 16 hH ?_
  refine rd2 5 22 (fun K hK => ?hc11q5) (fun K hK => ?hc11q22)
  case hc11q5 =>
   go_simp
   refine (HR0.out _).mono ?_
   rintro e w' ⟨rfl, rfl⟩
   go_wp2_with fail
   refine hK.out _ _ ⟨hq.cell 0, hq.cell 1, hq.cell 2, hq.cell 3, hr.cell 0, hr.cell 1, hr.cell 2, hz.cell 0, hz.cell 1, hz.cell 2, hz.cell 3⟩ (fun hH => ?_)
   clear hK K
   try (simp only [Act.put, List.setIfInBounds_toArray, List.set_cons_zero, List.set_cons_succ])
   refine rd2 11 22 (fun K hK => ?hc13q11) (fun K hK => ?hc13q22)
   case hc13q11 =>
    go_simp
    refine (HR1.out _).mono ?_
    rintro e w' ⟨rfl, rfl⟩
    go_wp2_with fail
    refine hK.out _ _ ⟨hq.cell 0, hq.cell 1, hq.cell 2, hq.cell 3, hr.cell 0, hr.cell 1, hr.cell 2, hz.cell 0, hz.cell 1, hz.cell 2, hz.cell 3⟩ (fun hH => ?_)
    clear hK K
    try (simp only [Act.put, List.setIfInBounds_toArray, List.set_cons_zero, List.set_cons_succ])
    refine rd2 17 22 (fun K hK => ?hc15q17) (fun K hK => ?hc15q22)
    case hc15q17 =>
     go_simp
     refine (HR2.out _).mono ?_
     rintro e w' ⟨rfl, rfl⟩
     go_wp2_with fail
     refine hK.out _ _ ⟨hq.cell 0, hq.cell 1, hq.cell 2, hq.cell 3, hr.cell 0, hr.cell 1, hr.cell 2, hz.cell 0, hz.cell 1, hz.cell 2, hz.cell 3⟩ (fun hH => ?_)
     clear hK K
     try (simp only [Act.put, List.setIfInBounds_toArray, List.set_cons_zero, List.set_cons_succ])
     refine rd2 18 22 (fun K hK => ?hc17q18) (fun K hK => ?hc17q22)
     case hc17q18 =>
      go_simp
      refine (HC.out _).mono ?_
      rintro e v18 ⟨rfl, bb⟩
      go_wp2_with fail
      replace hq := hq.below bb hq.lt
      replace hr := hr.below bb hr.lt
      replace hz := hz.below bb hz.lt
      replace hb := hb.on bb
      clear bb
      refine hK.out _ _ ⟨hq.cell 0, hq.cell 1, hq.cell 2, hq.cell 3, hr.cell 0, hr.cell 1, hr.cell 2, hz.cell 0, hz.cell 1, hz.cell 2, hz.cell 3⟩ (fun hH => ?_)
      clear hK K
      try (simp only [Act.put, List.setIfInBounds_toArray, List.set_cons_zero, List.set_cons_succ])
      refine tk 19 hH ?_
      refine tk 20 hH ?_
      refine tk 21 hH ?_
      refine rd1 22 (fun K hK => ?_)
      go_simp
      try go_wp2_with fail
      have lb20 := hb.size
      have l20hq := hq.lt
      have l20hr := hr.lt
      have l20hz := hz.lt
      replace hq := hq.alloc (.cells #[.int .i32 0, .int .i32 0, .int .i32 0] 25)
      replace hr := hr.alloc (.cells #[.int .i32 0, .int .i32 0, .int .i32 0] 25)
      replace hz := hz.alloc (.cells #[.int .i32 0, .int .i32 0, .int .i32 0] 25)
      have n20 := Blk.new v18 25 #[.int .i32 0, .int .i32 0, .int .i32 0]
      replace hb := hb.alloc hb.size (.cells #[.int .i32 0, .int .i32 0, .int .i32 0] 25)
      generalize v18.alloc (.cells #[.int .i32 0, .int .i32 0, .int .i32 0] 25) = v20 at *
      generalize v18.heap.size = g20 at *
      refine hK.out _ _ ⟨hq.cell 0, hq.cell 1, hq.cell 2, hq.cell 3, hr.cell 0, hr.cell 1, hr.cell 2, hz.cell 0, hz.cell 1, hz.cell 2, hz.cell 3⟩ (fun hH => ?_)
      clear hK K
      try (simp only [Act.put, List.setIfInBounds_toArray, List.set_cons_zero, List.set_cons_succ])
      refine rd1 23 (fun K hK => ?_)
      have c0 : v20.cell? ⟨g20, 0, none⟩ = some (.int .i32 0) := n20.cell 0
      have z0 := n20.frozen 0
      have c1 : v20.cell? ⟨g20, 1, none⟩ = some (.int .i32 0) := n20.cell 1
      have z1 := n20.frozen 1
      have c2 : v20.cell? ⟨g20, 2, none⟩ = some (.int .i32 0) := n20.cell 2
      have z2 := n20.frozen 2
      go_simp
      try go_wp2_with fail
      replace hq := (((hq.fr g20 0 (by omega) (.int .i32 h0)).fr g20 1 (by omega) (.int .i32 h1)).fr g20 2 (by omega) (.int .i32 h2))
      replace hr := (((hr.fr g20 0 (by omega) (.int .i32 h0)).fr g20 1 (by omega) (.int .i32 h1)).fr g20 2 (by omega) (.int .i32 h2))
      replace hz := (((hz.fr g20 0 (by omega) (.int .i32 h0)).fr g20 1 (by omega) (.int .i32 h1)).fr g20 2 (by omega) (.int .i32 h2))
      replace n20 := (((n20.set_ 0 (.int .i32 h0)).set_ 1 (.int .i32 h1)).set_ 2 (.int .i32 h2))
      replace hb := (((hb.sc g20 0 (by omega) (.int .i32 h0)).sc g20 1 (by omega) (.int .i32 h1)).sc g20 2 (by omega) (.int .i32 h2))
      clear c0 z0 c1 z1 c2 z2
      generalize (((v20.setCell ⟨g20, 0, none⟩ (.int .i32 h0)).setCell ⟨g20, 1, none⟩ (.int .i32 h1)).setCell ⟨g20, 2, none⟩ (.int .i32 h2)) = v22 at *
      refine hK.out _ _ ⟨hq.cell 0, hq.cell 1, hq.cell 2, hq.cell 3, hr.cell 0, hr.cell 1, hr.cell 2, hz.cell 0, hz.cell 1, hz.cell 2, hz.cell 3⟩ (fun hH => ?_)
      clear hK K
      try (simp only [Act.put, List.setIfInBounds_toArray, List.set_cons_zero, List.set_cons_succ])
      refine tk 24 hH ?_
      refine wpAnyH_done ?hru23 ?hqu23 _
      case hru23 => kernel_rfl
      refine NoPanic.normal ?_
      try go_wp2_with fail
      go_meet
      exact ⟨g20, rfl, rfl, n20, hq, hz, hb⟩
     case hc17q22 =>
      go_simp
      try go_wp2_with fail
      have lb24 := hb.size
      have l24hq := hq.lt
      have l24hr := hr.lt
      have l24hz := hz.lt
      replace hq := hq.alloc (.cells #[.int .i32 0, .int .i32 0, .int .i32 0] 25)
      replace hr := hr.alloc (.cells #[.int .i32 0, .int .i32 0, .int .i32 0] 25)
      replace hz := hz.alloc (.cells #[.int .i32 0, .int .i32 0, .int .i32 0] 25)
      have n24 := Blk.new W10 25 #[.int .i32 0, .int .i32 0, .int .i32 0]
      replace hb := hb.alloc hb.size (.cells #[.int .i32 0, .int .i32 0, .int .i32 0] 25)
      generalize W10.alloc (.cells #[.int .i32 0, .int .i32 0, .int .i32 0] 25) = v24 at *
      generalize W10.heap.size = g24 at *
      refine hK.out _ _ ⟨hq.cell 0, hq.cell 1, hq.cell 2, hq.cell 3, hr.cell 0, hr.cell 1, hr.cell 2, hz.cell 0, hz.cell 1, hz.cell 2, hz.cell 3⟩ (fun hH => ?_)
      clear hK K
      try (simp only [Act.put, List.setIfInBounds_toArray, List.set_cons_zero, List.set_cons_succ])
      refine rd1 18 (fun K hK => ?_)
      go_simp
      refine (HC.out _).mono ?_
      rintro e v26 ⟨rfl, bb⟩
      go_wp2_with fail
      replace hq := hq.below bb hq.lt
      replace hr := hr.below bb hr.lt
      replace hz := hz.below bb hz.lt
      replace n24 := n24.below bb n24.lt
      replace hb := hb.on bb
      clear bb
      refine hK.out _ _ ⟨hq.cell 0, hq.cell 1, hq.cell 2, hq.cell 3, hr.cell 0, hr.cell 1, hr.cell 2, hz.cell 0, hz.cell 1, hz.cell 2, hz.cell 3⟩ (fun hH => ?_)
      clear hK K
      try (simp only [Act.put, List.setIfInBounds_toArray, List.set_cons_zero, List.set_cons_succ])
      refine tk 19 hH ?_
      refine tk 20 hH ?_
      refine tk 21 hH ?_
      refine rd1 23 (fun K hK => ?_)
      have c0 : v26.cell? ⟨g24, 0, none⟩ = some (.int .i32 0) := n24.cell 0
      have z0 := n24.frozen 0
      have c1 : v26.cell? ⟨g24, 1, none⟩ = some (.int .i32 0) := n24.cell 1
      have z1 := n24.frozen 1
      have c2 : v26.cell? ⟨g24, 2, none⟩ = some (.int .i32 0) := n24.cell 2
      have z2 := n24.frozen 2
      go_simp
      try go_wp2_with fail
      replace hq := (((hq.fr g24 0 (by omega) (.int .i32 h0)).fr g24 1 (by omega) (.int .i32 h1)).fr g24 2 (by omega) (.int .i32 h2))
      replace hr := (((hr.fr g24 0 (by omega) (.int .i32 h0)).fr g24 1 (by omega) (.int .i32 h1)).fr g24 2 (by omega) (.int .i32 h2))
      replace hz := (((hz.fr g24 0 (by omega) (.int .i32 h0)).fr g24 1 (by omega) (.int .i32 h1)).fr g24 2 (by omega) (.int .i32 h2))
      replace n24 := (((n24.set_ 0 (.int .i32 h0)).set_ 1 (.int .i32 h1)).set_ 2 (.int .i32 h2))
      replace hb := (((hb.sc g24 0 (by omega) (.int .i32 h0)).sc g24 1 (by omega) (.int .i32 h1)).sc g24 2 (by omega) (.int .i32 h2))
      clear c0 z0 c1 z1 c2 z2
      generalize (((v26.setCell ⟨g24, 0, none⟩ (.int .i32 h0)).setCell ⟨g24, 1, none⟩ (.int .i32 h1)).setCell ⟨g24, 2, none⟩ (.int .i32 h2)) = v28 at *
      refine hK.out _ _ ⟨hq.cell 0, hq.cell 1, hq.cell 2, hq.cell 3, hr.cell 0, hr.cell 1, hr.cell 2, hz.cell 0, hz.cell 1, hz.cell 2, hz.cell 3⟩ (fun hH => ?_)
      clear hK K
      try (simp only [Act.put, List.setIfInBounds_toArray, List.set_cons_zero, List.set_cons_succ])
      refine tk 24 hH ?_
      refine wpAnyH_done ?hru29 ?hqu29 _
      case hru29 => kernel_rfl
      refine NoPanic.normal ?_
      try go_wp2_with fail
      go_meet
      exact ⟨g24, rfl, rfl, n24, hq, hz, hb⟩
    case hc15q22 =>
     go_simp
     try go_wp2_with fail
     have lb30 := hb.size
     have l30hq := hq.lt
     have l30hr := hr.lt
     have l30hz := hz.lt
     replace hq := hq.alloc (.cells #[.int .i32 0, .int .i32 0, .int .i32 0] 25)
     replace hr := hr.alloc (.cells #[.int .i32 0, .int .i32 0, .int .i32 0] 25)
     replace hz := hz.alloc (.cells #[.int .i32 0, .int .i32 0, .int .i32 0] 25)
     have n30 := Blk.new W10 25 #[.int .i32 0, .int .i32 0, .int .i32 0]
     replace hb := hb.alloc hb.size (.cells #[.int .i32 0, .int .i32 0, .int .i32 0] 25)
     generalize W10.alloc (.cells #[.int .i32 0, .int .i32 0, .int .i32 0] 25) = v30 at *
     generalize W10.heap.size = g30 at *
     refine hK.out _ _ ⟨hq.cell 0, hq.cell 1, hq.cell 2, hq.cell 3, hr.cell 0, hr.cell 1, hr.cell 2, hz.cell 0, hz.cell 1, hz.cell 2, hz.cell 3⟩ (fun hH => ?_)
     clear hK K
     try (simp only [Act.put, List.setIfInBounds_toArray, List.set_cons_zero, List.set_cons_succ])
     refine rd1 17 (fun K hK => ?_)
     go_simp
     refine (HR2.out _).mono ?_
     rintro e w' ⟨rfl, rfl⟩
     go_wp2_with fail
     refine hK.out _ _ ⟨hq.cell 0, hq.cell 1, hq.cell 2, hq.cell 3, hr.cell 0, hr.cell 1, hr.cell 2, hz.cell 0, hz.cell 1, hz.cell 2, hz.cell 3⟩ (fun hH => ?_)
     clear hK K
     try (simp only [Act.put, List.setIfInBounds_toArray, List.set_cons_zero, List.set_cons_succ])
     refine rd1 18 (fun K hK => ?_)
     go_simp
     refine (HC.out _).mono ?_
     rintro e v34 ⟨rfl, bb⟩
     go_wp2_with fail
     replace hq := hq.below bb hq.lt
     replace hr := hr.below bb hr.lt
     replace hz := hz.below bb hz.lt
     replace n30 := n30.below bb n30.lt
     replace hb := hb.on bb
     clear bb
     refine hK.out _ _ ⟨hq.cell 0, hq.cell 1, hq.cell 2, hq.cell 3, hr.cell 0, hr.cell 1, hr.cell 2, hz.cell 0, hz.cell 1, hz.cell 2, hz.cell 3⟩ (fun hH => ?_)
     clear hK K
     try (simp only [Act.put, List.setIfInBounds_toArray, List.set_cons_zero, List.set_cons_succ])
     refine tk 19 hH ?_
     refine tk 20 hH ?_
     refine tk 21 hH ?_
     refine rd1 23 (fun K hK => ?_)
     have c0 : v34.cell? ⟨g30, 0, none⟩ = some (.int .i32 0) := n30.cell 0
     have z0 := n30.frozen 0
     have c1 : v34.cell? ⟨g30, 1, none⟩ = some (.int .i32 0) := n30.cell 1
     have z1 := n30.frozen 1
     have c2 : v34.cell? ⟨g30, 2, none⟩ = some (.int .i32 0) := n30.cell 2
     have z2 := n30.frozen 2
     go_simp
     try go_wp2_with fail
     replace hq := (((hq.fr g30 0 (by omega) (.int .i32 h0)).fr g30 1 (by omega) (.int .i32 h1)).fr g30 2 (by omega) (.int .i32 h2))
     replace hr := (((hr.fr g30 0 (by omega) (.int .i32 h0)).fr g30 1 (by omega) (.int .i32 h1)).fr g30 2 (by omega) (.int .i32 h2))
     replace hz := (((hz.fr g30 0 (by omega) (.int .i32 h0)).fr g30 1 (by omega) (.int .i32 h1)).fr g30 2 (by omega) (.int .i32 h2))
     replace n30 := (((n30.set_ 0 (.int .i32 h0)).set_ 1 (.int .i32 h1)).set_ 2 (.int .i32 h2))
     replace hb := (((hb.sc g30 0 (by omega) (.int .i32 h0)).sc g30 1 (by omega) (.int .i32 h1)).sc g30 2 (by omega) (.int .i32 h2))
     clear c0 z0 c1 z1 c2 z2
     generalize (((v34.setCell ⟨g30, 0, none⟩ (.int .i32 h0)).setCell ⟨g30, 1, none⟩ (.int .i32 h1)).setCell ⟨g30, 2, none⟩ (.int .i32 h2)) = v36 at *
     refine hK.out _ _ ⟨hq.cell 0, hq.cell 1, hq.cell 2, hq.cell 3, hr.cell 0, hr.cell 1, hr.cell 2, hz.cell 0, hz.cell 1, hz.cell 2, hz.cell 3⟩ (fun hH => ?_)
     clear hK K
     try (simp only [Act.put, List.setIfInBounds_toArray, List.set_cons_zero, List.set_cons_succ])
     refine tk 24 hH ?_
     refine wpAnyH_done ?hru37 ?hqu37 _
     case hru37 => kernel_rfl
     refine NoPanic.normal ?_
     try go_wp2_with fail
     go_meet
     exact ⟨g30, rfl, rfl, n30, hq, hz, hb⟩
   case hc13q22 =>
    go_simp
    try go_wp2_with fail
    have lb38 := hb.size
    have l38hq := hq.lt
    have l38hr := hr.lt
    have l38hz := hz.lt
    replace hq := hq.alloc (.cells #[.int .i32 0, .int .i32 0, .int .i32 0] 25)
    replace hr := hr.alloc (.cells #[.int .i32 0, .int .i32 0, .int .i32 0] 25)
    replace hz := hz.alloc (.cells #[.int .i32 0, .int .i32 0, .int .i32 0] 25)
    have n38 := Blk.new W10 25 #[.int .i32 0, .int .i32 0, .int .i32 0]
    replace hb := hb.alloc hb.size (.cells #[.int .i32 0, .int .i32 0, .int .i32 0] 25)
    generalize W10.alloc (.cells #[.int .i32 0, .int .i32 0, .int .i32 0] 25) = v38 at *
    generalize W10.heap.size = g38 at *
    refine hK.out _ _ ⟨hq.cell 0, hq.cell 1, hq.cell 2, hq.cell 3, hr.cell 0, hr.cell 1, hr.cell 2, hz.cell 0, hz.cell 1, hz.cell 2, hz.cell 3⟩ (fun hH => ?_)
    clear hK K
    try (simp only [Act.put, List.setIfInBounds_toArray, List.set_cons_zero, List.set_cons_succ])
    refine rd1 11 (fun K hK => ?_)
    go_simp
    refine (HR1.out _).mono ?_
    rintro e w' ⟨rfl, rfl⟩
    go_wp2_with fail
    refine hK.out _ _ ⟨hq.cell 0, hq.cell 1, hq.cell 2, hq.cell 3, hr.cell 0, hr.cell 1, hr.cell 2, hz.cell 0, hz.cell 1, hz.cell 2, hz.cell 3⟩ (fun hH => ?_)
    clear hK K
    try (simp only [Act.put, List.setIfInBounds_toArray, List.set_cons_zero, List.set_cons_succ])
    refine rd1 17 (fun K hK => ?_)
    go_simp
    refine (HR2.out _).mono ?_
    rintro e w' ⟨rfl, rfl⟩
    go_wp2_with fail
    refine hK.out _ _ ⟨hq.cell 0, hq.cell 1, hq.cell 2, hq.cell 3, hr.cell 0, hr.cell 1, hr.cell 2, hz.cell 0, hz.cell 1, hz.cell 2, hz.cell 3⟩ (fun hH => ?_)
    clear hK K
    try (simp only [Act.put, List.setIfInBounds_toArray, List.set_cons_zero, List.set_cons_succ])
    refine rd1 18 (fun K hK => ?_)
    go_simp
    refine (HC.out _).mono ?_
    rintro e v44 ⟨rfl, bb⟩
    go_wp2_with fail
    replace hq := hq.below bb hq.lt
    replace hr := hr.below bb hr.lt
    replace hz := hz.below bb hz.lt
    replace n38 := n38.below bb n38.lt
    replace hb := hb.on bb
    clear bb
    refine hK.out _ _ ⟨hq.cell 0, hq.cell 1, hq.cell 2, hq.cell 3, hr.cell 0, hr.cell 1, hr.cell 2, hz.cell 0, hz.cell 1, hz.cell 2, hz.cell 3⟩ (fun hH => ?_)
    clear hK K
    try (simp only [Act.put, List.setIfInBounds_toArray, List.set_cons_zero, List.set_cons_succ])
    refine tk 19 hH ?_
    refine tk 20 hH ?_
    refine tk 21 hH ?_
    refine rd1 23 (fun K hK => ?_)
    have c0 : v44.cell? ⟨g38, 0, none⟩ = some (.int .i32 0) := n38.cell 0
    have z0 := n38.frozen 0
    have c1 : v44.cell? ⟨g38, 1, none⟩ = some (.int .i32 0) := n38.cell 1
    have z1 := n38.frozen 1
    have c2 : v44.cell? ⟨g38, 2, none⟩ = some (.int .i32 0) := n38.cell 2
    have z2 := n38.frozen 2
    go_simp
    try go_wp2_with fail
    replace hq := (((hq.fr g38 0 (by omega) (.int .i32 h0)).fr g38 1 (by omega) (.int .i32 h1)).fr g38 2 (by omega) (.int .i32 h2))
    replace hr := (((hr.fr g38 0 (by omega) (.int .i32 h0)).fr g38 1 (by omega) (.int .i32 h1)).fr g38 2 (by omega) (.int .i32 h2))
    replace hz := (((hz.fr g38 0 (by omega) (.int .i32 h0)).fr g38 1 (by omega) (.int .i32 h1)).fr g38 2 (by omega) (.int .i32 h2))
    replace n38 := (((n38.set_ 0 (.int .i32 h0)).set_ 1 (.int .i32 h1)).set_ 2 (.int .i32 h2))
    replace hb := (((hb.sc g38 0 (by omega) (.int .i32 h0)).sc g38 1 (by omega) (.int .i32 h1)).sc g38 2 (by omega) (.int .i32 h2))
    clear c0 z0 c1 z1 c2 z2
    generalize (((v44.setCell ⟨g38, 0, none⟩ (.int .i32 h0)).setCell ⟨g38, 1, none⟩ (.int .i32 h1)).setCell ⟨g38, 2, none⟩ (.int .i32 h2)) = v46 at *
    refine hK.out _ _ ⟨hq.cell 0, hq.cell 1, hq.cell 2, hq.cell 3, hr.cell 0, hr.cell 1, hr.cell 2, hz.cell 0, hz.cell 1, hz.cell 2, hz.cell 3⟩ (fun hH => ?_)
    clear hK K
    try (simp only [Act.put, List.setIfInBounds_toArray, List.set_cons_zero, List.set_cons_succ])
    refine tk 24 hH ?_
    refine wpAnyH_done ?hru47 ?hqu47 _
    case hru47 => kernel_rfl
    refine NoPanic.normal ?_
    try go_wp2_with fail
    go_meet
    exact ⟨g38, rfl, rfl, n38, hq, hz, hb⟩
  case hc11q22 =>
   go_simp
   try go_wp2_with fail
   have lb48 := hb.size
   have l48hq := hq.lt
   have l48hr := hr.lt
   have l48hz := hz.lt
   replace hq := hq.alloc (.cells #[.int .i32 0, .int .i32 0, .int .i32 0] 25)
   replace hr := hr.alloc (.cells #[.int .i32 0, .int .i32 0, .int .i32 0] 25)
   replace hz := hz.alloc (.cells #[.int .i32 0, .int .i32 0, .int .i32 0] 25)
   have n48 := Blk.new W10 25 #[.int .i32 0, .int .i32 0, .int .i32 0]
   replace hb := hb.alloc hb.size (.cells #[.int .i32 0, .int .i32 0, .int .i32 0] 25)
   generalize W10.alloc (.cells #[.int .i32 0, .int .i32 0, .int .i32 0] 25) = v48 at *
   generalize W10.heap.size = g48 at *
   refine hK.out _ _ ⟨hq.cell 0, hq.cell 1, hq.cell 2, hq.cell 3, hr.cell 0, hr.cell 1, hr.cell 2, hz.cell 0, hz.cell 1, hz.cell 2, hz.cell 3⟩ (fun hH => ?_)
   clear hK K
   try (simp only [Act.put, List.setIfInBounds_toArray, List.set_cons_zero, List.set_cons_succ])
   refine rd1 5 (fun K hK => ?_)
   go_simp
   refine (HR0.out _).mono ?_
   rintro e w' ⟨rfl, rfl⟩
   go_wp2_with fail
   refine hK.out _ _ ⟨hq.cell 0, hq.cell 1, hq.cell 2, hq.cell 3, hr.cell 0, hr.cell 1, hr.cell 2, hz.cell 0, hz.cell 1, hz.cell 2, hz.cell 3⟩ (fun hH => ?_)
   clear hK K
   try (simp only [Act.put, List.setIfInBounds_toArray, List.set_cons_zero, List.set_cons_succ])
   refine rd1 11 (fun K hK => ?_)
   go_simp
   refine (HR1.out _).mono ?_
   rintro e w' ⟨rfl, rfl⟩
   go_wp2_with fail
   refine hK.out _ _ ⟨hq.cell 0, hq.cell 1, hq.cell 2, hq.cell 3, hr.cell 0, hr.cell 1, hr.cell 2, hz.cell 0, hz.cell 1, hz.cell 2, hz.cell 3⟩ (fun hH => ?_)
   clear hK K
   try (simp only [Act.put, List.setIfInBounds_toArray, List.set_cons_zero, List.set_cons_succ])
   refine rd1 17 (fun K hK => ?_)
   go_simp
   refine (HR2.out _).mono ?_
   rintro e w' ⟨rfl, rfl⟩
   go_wp2_with fail
   refine hK.out _ _ ⟨hq.cell 0, hq.cell 1, hq.cell 2, hq.cell 3, hr.cell 0, hr.cell 1, hr.cell 2, hz.cell 0, hz.cell 1, hz.cell 2, hz.cell 3⟩ (fun hH => ?_)
   clear hK K
   try (simp only [Act.put, List.setIfInBounds_toArray, List.set_cons_zero, List.set_cons_succ])
   refine rd1 18 (fun K hK => ?_)
   go_simp
   refine (HC.out _).mono ?_
   rintro e v56 ⟨rfl, bb⟩
   go_wp2_with fail
   replace hq := hq.below bb hq.lt
   replace hr := hr.below bb hr.lt
   replace hz := hz.below bb hz.lt
   replace n48 := n48.below bb n48.lt
   replace hb := hb.on bb
   clear bb
   refine hK.out _ _ ⟨hq.cell 0, hq.cell 1, hq.cell 2, hq.cell 3, hr.cell 0, hr.cell 1, hr.cell 2, hz.cell 0, hz.cell 1, hz.cell 2, hz.cell 3⟩ (fun hH => ?_)
   clear hK K
   try (simp only [Act.put, List.setIfInBounds_toArray, List.set_cons_zero, List.set_cons_succ])
   refine tk 19 hH ?_
   refine tk 20 hH ?_
   refine tk 21 hH ?_
   refine rd1 23 (fun K hK => ?_)
   have c0 : v56.cell? ⟨g48, 0, none⟩ = some (.int .i32 0) := n48.cell 0
   have z0 := n48.frozen 0
   have c1 : v56.cell? ⟨g48, 1, none⟩ = some (.int .i32 0) := n48.cell 1
   have z1 := n48.frozen 1
   have c2 : v56.cell? ⟨g48, 2, none⟩ = some (.int .i32 0) := n48.cell 2
   have z2 := n48.frozen 2
   go_simp
   try go_wp2_with fail
   replace hq := (((hq.fr g48 0 (by omega) (.int .i32 h0)).fr g48 1 (by omega) (.int .i32 h1)).fr g48 2 (by omega) (.int .i32 h2))
   replace hr := (((hr.fr g48 0 (by omega) (.int .i32 h0)).fr g48 1 (by omega) (.int .i32 h1)).fr g48 2 (by omega) (.int .i32 h2))
   replace hz := (((hz.fr g48 0 (by omega) (.int .i32 h0)).fr g48 1 (by omega) (.int .i32 h1)).fr g48 2 (by omega) (.int .i32 h2))
   replace n48 := (((n48.set_ 0 (.int .i32 h0)).set_ 1 (.int .i32 h1)).set_ 2 (.int .i32 h2))
   replace hb := (((hb.sc g48 0 (by omega) (.int .i32 h0)).sc g48 1 (by omega) (.int .i32 h1)).sc g48 2 (by omega) (.int .i32 h2))
   clear c0 z0 c1 z1 c2 z2
   generalize (((v56.setCell ⟨g48, 0, none⟩ (.int .i32 h0)).setCell ⟨g48, 1, none⟩ (.int .i32 h1)).setCell ⟨g48, 2, none⟩ (.int .i32 h2)) = v58 at *
   refine hK.out _ _ ⟨hq.cell 0, hq.cell 1, hq.cell 2, hq.cell 3, hr.cell 0, hr.cell 1, hr.cell 2, hz.cell 0, hz.cell 1, hz.cell 2, hz.cell 3⟩ (fun hH => ?_)
   clear hK K
   try (simp only [Act.put, List.setIfInBounds_toArray, List.set_cons_zero, List.set_cons_succ])
   refine tk 24 hH ?_
   refine wpAnyH_done ?hru59 ?hqu59 _
   case hru59 => kernel_rfl
   refine NoPanic.normal ?_
   try go_wp2_with fail
   go_meet
   exact ⟨g48, rfl, rfl, n48, hq, hz, hb⟩
 case rest =>
  clear hq hr hz hb HR0 HR1 HR2 HC
  obtain ⟨gh, rfl, rfl, hh, hq, hz, hb⟩ := hcut
  go_upto_region 3 with fail
  have f0 : wc.cell? ⟨w.heap.size, 0, none⟩ = some (.int .i32 q0) := hq.cell 0
  have f1 : wc.cell? ⟨w.heap.size, 1, none⟩ = some (.int .i32 q1) := hq.cell 1
  have f2 : wc.cell? ⟨w.heap.size, 2, none⟩ = some (.int .i32 q2) := hq.cell 2
  have f3 : wc.cell? ⟨w.heap.size, 3, none⟩ = some (.int .i32 q3) := hq.cell 3
  have g0 : wc.cell? ⟨gh, 0, none⟩ = some (.int .i32 h0) := hh.cell 0
  have g1 : wc.cell? ⟨gh, 1, none⟩ = some (.int .i32 h1) := hh.cell 1
  have g2 : wc.cell? ⟨gh, 2, none⟩ = some (.int .i32 h2) := hh.cell 2
  go_wp2_with fail
  clear f0 f1 f2 f3 g0 g1 g2
  refine (HMM.out _).mono ?_
  rintro e w3 ⟨rfl, b3⟩
  replace hz := (hz.below b3 hz.lt).alloc (.cells #[.int .i32 p0, .int .i32 p1, .int .i32 p2, .int .i32 p3] 23)
  replace hb := (below_on hb b3).alloc (below_on hb b3).size (.cells #[.int .i32 p0, .int .i32 p1, .int .i32 p2, .int .i32 p3] 23)
  have hP := Blk.new w3 23 #[.int .i32 p0, .int .i32 p1, .int .i32 p2, .int .i32 p3]
  clear hq hh b3 HMM
  go_upto_region 4 with fail
  generalize w3.alloc (.cells #[.int .i32 p0, .int .i32 p1, .int .i32 p2, .int .i32 p3] 23) = W3 at *
  generalize w3.heap.size = gp at *
  have f0 : W3.cell? ⟨gp, 0, none⟩ = some (.int .i32 p0) := hP.cell 0
  have f1 : W3.cell? ⟨gp, 1, none⟩ = some (.int .i32 p1) := hP.cell 1
  have f2 : W3.cell? ⟨gp, 2, none⟩ = some (.int .i32 p2) := hP.cell 2
  have f3 : W3.cell? ⟨gp, 3, none⟩ = some (.int .i32 p3) := hP.cell 3
  go_wp2_with fail
  clear f0 f1 f2 f3
  have HK1 := hid (HKK0.out W3)
  clear HKK0
  by_cases hfar : 0 < farP [p0, p1, p2, p3]
  ·have HK2 := HK1
   rw [show decide (0 < farP [p0, p1, p2, p3]) = true from decide_eq_true hfar] at HK2
   have HE : Hid (∀ (x z : Int), stO [p0, p1, p2, p3] x z = makeP [p0, p1, p2, p3] x) := hid (fun x z => by rw [HO.out, if_pos hfar])
   have HF : Hid ((if 0 < farP [p0, p1, p2, p3] then (0 : Int) else 1) = 0) := hid (if_pos hfar)
   clear HK1 HO hfar
   refine (HK2.out).mono ?_
   rintro e w4 ⟨rfl, b4⟩
   replace hz := (hz.below b4 hz.lt).alloc (.cells #[.int .i32 s0, .int .i32 s1, .int .i32 s2, .int .i32 s3] 23)
   replace hb := (below_on hb b4).alloc (below_on hb b4).size (.cells #[.int .i32 s0, .int .i32 s1, .int .i32 s2, .int .i32 s3] 23)
   have hS := Blk.new w4 23 #[.int .i32 s0, .int .i32 s1, .int .i32 s2, .int .i32 s3]
   clear b4 HK2 hP
   go_upto_region 7 with fail
   generalize w4.alloc (.cells #[.int .i32 s0, .int .i32 s1, .int .i32 s2, .int .i32 s3] 23) = W4 at *
   generalize w4.heap.size = gs at *
   have c0x : W4.cell? ⟨gs, 0, none⟩ = some (.int .i32 s0) := hS.cell 0
   have c1x : W4.cell? ⟨gs, 1, none⟩ = some (.int .i32 s1) := hS.cell 1
   have c2x : W4.cell? ⟨gs, 2, none⟩ = some (.int .i32 s2) := hS.cell 2
   have c3x : W4.cell? ⟨gs, 3, none⟩ = some (.int .i32 s3) := hS.cell 3
   have d0 : W4.cell? ⟨w.heap.size + 1 + 1, 0, none⟩ = some (.int .i32 0) := hz.cell 0
   have zz0 := hz.frozen 0
   have d1 : W4.cell? ⟨w.heap.size + 1 + 1, 1, none⟩ = some (.int .i32 0) := hz.cell 1
   have zz1 := hz.frozen 1
   have d2 : W4.cell? ⟨w.heap.size + 1 + 1, 2, none⟩ = some (.int .i32 0) := hz.cell 2
   have zz2 := hz.frozen 2
   have d3 : W4.cell? ⟨w.heap.size + 1 + 1, 3, none⟩ = some (.int .i32 0) := hz.cell 3
   have zz3 := hz.frozen 3
   have hf : Blk ((((W4.setCell ⟨w.heap.size + 1 + 1, 0, none⟩ (.int .i32 s0)).setCell ⟨w.heap.size + 1 + 1, 1, none⟩ (.int .i32 s1)).setCell ⟨w.heap.size + 1 + 1, 2, none⟩ (.int .i32 s2)).setCell ⟨w.heap.size + 1 + 1, 3, none⟩ (.int .i32 s3)) (w.heap.size + 1 + 1) 23 #[.int .i32 s0, .int .i32 s1, .int .i32 s2, .int .i32 s3] := ((((hz.set_ 0 (.int .i32 s0)).set_ 1 (.int .i32 s1)).set_ 2 (.int .i32 s2)).set_ 3 (.int .i32 s3))
   have hbf : Below w.heap.size w ((((W4.setCell ⟨w.heap.size + 1 + 1, 0, none⟩ (.int .i32 s0)).setCell ⟨w.heap.size + 1 + 1, 1, none⟩ (.int .i32 s1)).setCell ⟨w.heap.size + 1 + 1, 2, none⟩ (.int .i32 s2)).setCell ⟨w.heap.size + 1 + 1, 3, none⟩ (.int .i32 s3)) := ((((hb.sc (w.heap.size + 1 + 1) 0 (by omega) (.int .i32 s0)).sc (w.heap.size + 1 + 1) 1 (by omega) (.int .i32 s1)).sc (w.heap.size + 1 + 1) 2 (by omega) (.int .i32 s2)).sc (w.heap.size + 1 + 1) 3 (by omega) (.int .i32 s3))
   go_wp2
   generalize ((((W4.setCell ⟨w.heap.size + 1 + 1, 0, none⟩ (.int .i32 s0)).setCell ⟨w.heap.size + 1 + 1, 1, none⟩ (.int .i32 s1)).setCell ⟨w.heap.size + 1 + 1, 2, none⟩ (.int .i32 s2)).setCell ⟨w.heap.size + 1 + 1, 3, none⟩ (.int .i32 s3)) = wf at *
   have f0 : wf.cell? ⟨w.heap.size + 1 + 1, 0, none⟩ = some (.int .i32 s0) := hf.cell 0
   have f1 : wf.cell? ⟨w.heap.size + 1 + 1, 1, none⟩ = some (.int .i32 s1) := hf.cell 1
   have f2 : wf.cell? ⟨w.heap.size + 1 + 1, 2, none⟩ = some (.int .i32 s2) := hf.cell 2
   have f3 : wf.cell? ⟨w.heap.size + 1 + 1, 3, none⟩ = some (.int .i32 s3) := hf.cell 3
   simp [bodyPost, results, Tryz.results34, go_sem, f0, f1, f2, f3]
   refine HPost.out _ _ ⟨by rw [HE.out, HE.out, HE.out, HE.out, HS0.out, HS1.out, HS2.out, HS3.out, HF.out, EN.out, Int.add_zero], hbf⟩
  ·have HK2 := HK1
   rw [show decide (0 < farP [p0, p1, p2, p3]) = false from decide_eq_false hfar] at HK2
   have HE : Hid (∀ (x z : Int), stO [p0, p1, p2, p3] x z = z) := hid (fun x z => by rw [HO.out, if_neg hfar])
   have HF : Hid ((if 0 < farP [p0, p1, p2, p3] then (0 : Int) else 1) = 1) := hid (if_neg hfar)
   clear HK1 HO hfar
   refine (HK2.out).mono ?_
   rintro e w4 ⟨rfl, b4⟩
   replace hz := (hz.below b4 hz.lt).alloc (.cells #[.int .i32 s0, .int .i32 s1, .int .i32 s2, .int .i32 s3] 23)
   replace hb := (below_on hb b4).alloc (below_on hb b4).size (.cells #[.int .i32 s0, .int .i32 s1, .int .i32 s2, .int .i32 s3] 23)
   clear b4 HK2 hP
   go_wp2_with fail
   generalize w4.alloc (.cells #[.int .i32 s0, .int .i32 s1, .int .i32 s2, .int .i32 s3] 23) = W4 at *
   refine ((r10_One) _).mono ?_
   rintro e w5 ⟨rfl, b5⟩
   replace hz := hz.below b5 hz.lt
   replace hb := below_on hb b5
   clear b5
   have d0 : w5.cell? ⟨w.heap.size + 1 + 1, 0, none⟩ = some (.int .i32 0) := hz.cell 0
   have zz0 := hz.frozen 0
   have d1 : w5.cell? ⟨w.heap.size + 1 + 1, 1, none⟩ = some (.int .i32 0) := hz.cell 1
   have zz1 := hz.frozen 1
   have d2 : w5.cell? ⟨w.heap.size + 1 + 1, 2, none⟩ = some (.int .i32 0) := hz.cell 2
   have zz2 := hz.frozen 2
   have d3 : w5.cell? ⟨w.heap.size + 1 + 1, 3, none⟩ = some (.int .i32 0) := hz.cell 3
   have zz3 := hz.frozen 3
   have hf : Blk ((((w5.setCell ⟨w.heap.size + 1 + 1, 0, none⟩ (.int .i32 1073741824)).setCell ⟨w.heap.size + 1 + 1, 1, none⟩ (.int .i32 0)).setCell ⟨w.heap.size + 1 + 1, 2, none⟩ (.int .i32 0)).setCell ⟨w.heap.size + 1 + 1, 3, none⟩ (.int .i32 0)) (w.heap.size + 1 + 1) 23 #[.int .i32 1073741824, .int .i32 0, .int .i32 0, .int .i32 0] := ((((hz.set_ 0 (.int .i32 1073741824)).set_ 1 (.int .i32 0)).set_ 2 (.int .i32 0)).set_ 3 (.int .i32 0))
   have hbf : Below w.heap.size w ((((w5.setCell ⟨w.heap.size + 1 + 1, 0, none⟩ (.int .i32 1073741824)).setCell ⟨w.heap.size + 1 + 1, 1, none⟩ (.int .i32 0)).setCell ⟨w.heap.size + 1 + 1, 2, none⟩ (.int .i32 0)).setCell ⟨w.heap.size + 1 + 1, 3, none⟩ (.int .i32 0)) := ((((hb.sc (w.heap.size + 1 + 1) 0 (by omega) (.int .i32 1073741824)).sc (w.heap.size + 1 + 1) 1 (by omega) (.int .i32 0)).sc (w.heap.size + 1 + 1) 2 (by omega) (.int .i32 0)).sc (w.heap.size + 1 + 1) 3 (by omega) (.int .i32 0))
   go_wp2
   generalize ((((w5.setCell ⟨w.heap.size + 1 + 1, 0, none⟩ (.int .i32 1073741824)).setCell ⟨w.heap.size + 1 + 1, 1, none⟩ (.int .i32 0)).setCell ⟨w.heap.size + 1 + 1, 2, none⟩ (.int .i32 0)).setCell ⟨w.heap.size + 1 + 1, 3, none⟩ (.int .i32 0)) = wf at *
   have f0 : wf.cell? ⟨w.heap.size + 1 + 1, 0, none⟩ = some (.int .i32 1073741824) := hf.cell 0
   have f1 : wf.cell? ⟨w.heap.size + 1 + 1, 1, none⟩ = some (.int .i32 0) := hf.cell 1
   have f2 : wf.cell? ⟨w.heap.size + 1 + 1, 2, none⟩ = some (.int .i32 0) := hf.cell 2
   have f3 : wf.cell? ⟨w.heap.size + 1 + 1, 3, none⟩ = some (.int .i32 0) := hf.cell 3
   simp [bodyPost, results, Tryz.results34, go_sem, f0, f1, f2, f3]
   refine HPost.out _ _ ⟨by rw [HE.out, HE.out, HE.out, HE.out, HF.out, EN.out], hbf⟩
end Go.Proofs.YtgmepohfkpncmaaGreat
