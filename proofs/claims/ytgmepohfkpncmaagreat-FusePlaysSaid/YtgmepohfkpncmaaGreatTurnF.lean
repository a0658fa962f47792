/- Chapter 13: the document's answer, where up is. -/
import Derived.Test.YtgmepohfkpncmaaGreatTurnE
namespace Go.Proofs.YtgmepohfkpncmaaGreat
open Go.RowKit
set_option linter.unusedVariables false
set_option linter.unusedSimpArgs false

set_option maxRecDepth 20000 in
set_option maxHeartbeats 16000000 in
theorem r13_Up (q0 q1 q2 q3 : Int) (w : World) (iq0 : I32 q0) (iq1 : I32 q1) (iq2 : I32 q2) (iq3 : I32 q3) :
  Calls Tryz.prog 23 #[.agg #[.int .i32 q0, .int .i32 q1, .int .i32 q2, .int .i32 q3]] w (Ups q0 q1 q2 q3 w) := by
 have Ha := hid fun w => r13_by q0 q0 w iq0 iq0
 have ma := tm_bd q0 q0 iq0 iq0
 have Hb := hid fun w => r13_by q1 q1 w iq1 iq1
 have mb := tm_bd q1 q1 iq1 iq1
 have Hc := hid fun w => r13_by q2 q2 w iq2 iq2
 have mc := tm_bd q2 q2 iq2 iq2
 have Hd := hid fun w => r13_by q3 q3 w iq3 iq3
 have md := tm_bd q3 q3 iq3 iq3
 have Hx := hid fun w => r13_by q1 q3 w iq1 iq3
 have mx := tm_bd q1 q3 iq1 iq3
 have Hy := hid fun w => r13_by q0 q2 w iq0 iq2
 have my := tm_bd q0 q2 iq0 iq2
 have Hz := hid fun w => r13_by q2 q3 w iq2 iq3
 have mz := tm_bd q2 q3 iq2 iq3
 have Ht := hid fun w => r13_by q0 q1 w iq0 iq1
 have mt := tm_bd q0 q1 iq0 iq1
 have HPost : Hid (∀ e w', e = .returned (.agg #[.int .i32 (clampP (2 * (tmP q1 q3 - tmP q0 q2))), .int .i32 (clampP (2 * (tmP q2 q3 + tmP q0 q1))), .int .i32 (clampP (tmP q0 q0 - tmP q1 q1 - tmP q2 q2 + tmP q3 q3))]) ∧ Below w.heap.size w w' → Ups q0 q1 q2 q3 w e w') := fun e w' h => h
 generalize hha : tmP q0 q0 = a at *
 clear hha
 generalize hhb : tmP q1 q1 = b at *
 clear hhb
 generalize hhc : tmP q2 q2 = c at *
 clear hhc
 generalize hhd : tmP q3 q3 = d at *
 clear hhd
 generalize hhx : tmP q1 q3 = x at *
 clear hhx
 generalize hhy : tmP q0 q2 = y at *
 clear hhy
 generalize hhz : tmP q2 q3 = z at *
 clear hhz
 generalize hht : tmP q0 q1 = t at *
 clear hht
 have w1 : IntKind.i64.wrap (a - b) = a - b := IntWalk.i64_in _ (by omega)
 have w2 : IntKind.i64.wrap (a - b - c) = a - b - c := IntWalk.i64_in _ (by omega)
 have w3 : IntKind.i64.wrap (a - b - c + d) = a - b - c + d := IntWalk.i64_in _ (by omega)
 have w4 : IntKind.i64.wrap (x - y) = x - y := IntWalk.i64_in _ (by omega)
 have w5 : IntKind.i64.wrap (2 * (x - y)) = 2 * (x - y) := IntWalk.i64_in _ (by omega)
 have w6 : IntKind.i64.wrap (z + t) = z + t := IntWalk.i64_in _ (by omega)
 have w7 : IntKind.i64.wrap (2 * (z + t)) = 2 * (z + t) := IntWalk.i64_in _ (by omega)
 have HE := hid fun w => r9_Cut (2 * (x - y)) (2 * (z + t)) (a - b - c + d) w (by unfold I64; omega) (by unfold I64; omega) (by unfold I64; omega)
 generalize clampP (2 * (x - y)) = y0 at *
 generalize clampP (2 * (z + t)) = y1 at *
 generalize clampP (a - b - c + d) = y2 at *
 generalize cutC (2 * (x - y)) + cutC (2 * (z + t)) + cutC (a - b - c + d) = N at *
 clear ma mb mc md mx my mz mt iq0 iq1 iq2 iq3
 have hp0 : Blk ((w.alloc (.cells #[.int .i32 q0, .int .i32 q1, .int .i32 q2, .int .i32 q3] 23)).alloc (.cells #[.int .i32 0, .int .i32 0, .int .i32 0] 25)) w.heap.size 23 #[.int .i32 q0, .int .i32 q1, .int .i32 q2, .int .i32 q3] := (Blk.new w _ _).alloc _
 have hr : Blk ((w.alloc (.cells #[.int .i32 q0, .int .i32 q1, .int .i32 q2, .int .i32 q3] 23)).alloc (.cells #[.int .i32 0, .int .i32 0, .int .i32 0] 25)) (w.heap.size + 1) 25 #[.int .i32 0, .int .i32 0, .int .i32 0] := by have := Blk.new (w.alloc (.cells #[.int .i32 q0, .int .i32 q1, .int .i32 q2, .int .i32 q3] 23)) 25 #[.int .i32 0, .int .i32 0, .int .i32 0]; simpa using this
 have hb : Below w.heap.size w ((w.alloc (.cells #[.int .i32 q0, .int .i32 q1, .int .i32 q2, .int .i32 q3] 23)).alloc (.cells #[.int .i32 0, .int .i32 0, .int .i32 0] 25)) := ((Below.refl _ w).alloc (Nat.le_refl _) _).alloc (by simp) _
 go_enter Tryz.func23, Tryz.ntmps23
 go_upto_region 1 with fail
 generalize (w.alloc (.cells #[.int .i32 q0, .int .i32 q1, .int .i32 q2, .int .i32 q3] 23)).alloc (.cells #[.int .i32 0, .int .i32 0, .int .i32 0] 25) = W0 at *
 go_cut [3] from 4 to 55 (fun pp wx => ∃ g : Nat, pp = .pointer (some ⟨g, 0, none⟩) ∧ Blk wx g 25 #[.int .i32 y0, .int .i32 y1, .int .i32 y2] ∧ Blk wx (w.heap.size + 1) 25 #[.int .i32 0, .int .i32 0, .int .i32 0] ∧ Below w.heap.size w wx)
 case first =>
  refine wp_region_noPanic ?_
  refine wp_region_held_drew (S := (fun w' : World => w'.cell? ⟨w.heap.size, 0, none⟩ = some (.int .i32 q0) ∧ w'.cell? ⟨w.heap.size, 1, none⟩ = some (.int .i32 q1) ∧ w'.cell? ⟨w.heap.size, 2, none⟩ = some (.int .i32 q2) ∧ w'.cell? ⟨w.heap.size, 3, none⟩ = some (.int .i32 q3) ∧ w'.cell? ⟨w.heap.size + 1, 0, none⟩ = some (.int .i32 0) ∧ w'.cell? ⟨w.heap.size + 1, 1, none⟩ = some (.int .i32 0) ∧ w'.cell? ⟨w.heap.size + 1, 2, none⟩ = some (.int .i32 0))) (by kernel_rfl) ⟨hp0.cell 0, hp0.cell 1, hp0.cell 2, hp0.cell 3, hr.cell 0, hr.cell 1, hr.cell 2⟩ (fun hH => ?_)
  refine (show wpAnyH _ _ _ _ _ 54 _ _ _ from ?_)
  try (simp only [Act.put, List.setIfInBounds_toArray, List.set_cons_zero, List.set_cons_succ])
  replace hp0 := hp0.drew
  replace hr := hr.drew
  replace hb := hb.drew
  generalize W0.drew = W61 at *
  refine tk 0 hH ?_
  refine tk 1 hH ?_
  refine tk 2 hH ?_
  refine tk 3 hH ?_
  refine tk 5 hH ?_
  refine tk 6 hH ?_
  refine tk 7 hH ?_
  refine tk 8 hH ?_
  refine tk 12 hH ?_
  refine tk 13 hH ?_
  refine tk 14 hH ?_
  refine tk 15 hH ?_
  refine tk 17 hH ?_
  refine tk 18 hH ?_
  refine tk 19 hH ?_
  refine tk 20 hH ?_
  refine tk 24 hH ?_
  refine tk 25 hH ?_
  refine tk 26 hH ?_
  refine tk 27 hH ?_
  refine tk 29 hH ?_
  refine tk 30 hH ?_
  refine tk 31 hH ?_
  refine tk 32 hH ?_
  refine tk 35 hH ?_
  refine tk 36 hH ?_
  refine tk 37 hH ?_
  refine tk 38 hH ?_
  refine tk 41 hH ?_
  refine tk 42 hH ?_
  refine tk 43 hH ?_
  refine tk 44 hH ?_
  refine rd2 4 51 (fun K hK => ?hc62q4) (fun K hK => ?hc62q51)
  case hc62q4 =>
   go_simp
   refine (Hx.out _).mono ?_
   rintro e w' ⟨rfl, rfl⟩
   go_wp2_with fail
   refine hK.out _ _ ⟨hp0.cell 0, hp0.cell 1, hp0.cell 2, hp0.cell 3, hr.cell 0, hr.cell 1, hr.cell 2⟩ (fun hH => ?_)
   clear hK K
   try (simp only [Act.put, List.setIfInBounds_toArray, List.set_cons_zero, List.set_cons_succ])
   refine rd2 9 51 (fun K hK => ?hc64q9) (fun K hK => ?hc64q51)
   case hc64q9 =>
    go_simp
    refine (Hy.out _).mono ?_
    rintro e w' ⟨rfl, rfl⟩
    go_wp2_with fail
    refine hK.out _ _ ⟨hp0.cell 0, hp0.cell 1, hp0.cell 2, hp0.cell 3, hr.cell 0, hr.cell 1, hr.cell 2⟩ (fun hH => ?_)
    clear hK K
    try (simp only [Act.put, List.setIfInBounds_toArray, List.set_cons_zero, List.set_cons_succ])
    refine tk 10 hH ?_
    refine tk 11 hH ?_
    refine rd2 16 51 (fun K hK => ?hc66q16) (fun K hK => ?hc66q51)
    case hc66q16 =>
     go_simp
     refine (Hz.out _).mono ?_
     rintro e w' ⟨rfl, rfl⟩
     go_wp2_with fail
     refine hK.out _ _ ⟨hp0.cell 0, hp0.cell 1, hp0.cell 2, hp0.cell 3, hr.cell 0, hr.cell 1, hr.cell 2⟩ (fun hH => ?_)
     clear hK K
     try (simp only [Act.put, List.setIfInBounds_toArray, List.set_cons_zero, List.set_cons_succ])
     refine rd2 21 51 (fun K hK => ?hc68q21) (fun K hK => ?hc68q51)
     case hc68q21 =>
      go_simp
      refine (Ht.out _).mono ?_
      rintro e w' ⟨rfl, rfl⟩
      go_wp2_with fail
      refine hK.out _ _ ⟨hp0.cell 0, hp0.cell 1, hp0.cell 2, hp0.cell 3, hr.cell 0, hr.cell 1, hr.cell 2⟩ (fun hH => ?_)
      clear hK K
      try (simp only [Act.put, List.setIfInBounds_toArray, List.set_cons_zero, List.set_cons_succ])
      refine tk 22 hH ?_
      refine tk 23 hH ?_
      refine rd2 28 51 (fun K hK => ?hc70q28) (fun K hK => ?hc70q51)
      case hc70q28 =>
       go_simp
       refine (Ha.out _).mono ?_
       rintro e w' ⟨rfl, rfl⟩
       go_wp2_with fail
       refine hK.out _ _ ⟨hp0.cell 0, hp0.cell 1, hp0.cell 2, hp0.cell 3, hr.cell 0, hr.cell 1, hr.cell 2⟩ (fun hH => ?_)
       clear hK K
       try (simp only [Act.put, List.setIfInBounds_toArray, List.set_cons_zero, List.set_cons_succ])
       refine rd2 33 51 (fun K hK => ?hc72q33) (fun K hK => ?hc72q51)
       case hc72q33 =>
        go_simp
        refine (Hb.out _).mono ?_
        rintro e w' ⟨rfl, rfl⟩
        go_wp2_with fail
        refine hK.out _ _ ⟨hp0.cell 0, hp0.cell 1, hp0.cell 2, hp0.cell 3, hr.cell 0, hr.cell 1, hr.cell 2⟩ (fun hH => ?_)
        clear hK K
        try (simp only [Act.put, List.setIfInBounds_toArray, List.set_cons_zero, List.set_cons_succ])
        refine tk 34 hH ?_
        refine rd2 39 51 (fun K hK => ?hc74q39) (fun K hK => ?hc74q51)
        case hc74q39 =>
         go_simp
         refine (Hc.out _).mono ?_
         rintro e w' ⟨rfl, rfl⟩
         go_wp2_with fail
         refine hK.out _ _ ⟨hp0.cell 0, hp0.cell 1, hp0.cell 2, hp0.cell 3, hr.cell 0, hr.cell 1, hr.cell 2⟩ (fun hH => ?_)
         clear hK K
         try (simp only [Act.put, List.setIfInBounds_toArray, List.set_cons_zero, List.set_cons_succ])
         refine tk 40 hH ?_
         refine rd2 45 51 (fun K hK => ?hc76q45) (fun K hK => ?hc76q51)
         case hc76q45 =>
          go_simp
          refine (Hd.out _).mono ?_
          rintro e w' ⟨rfl, rfl⟩
          go_wp2_with fail
          refine hK.out _ _ ⟨hp0.cell 0, hp0.cell 1, hp0.cell 2, hp0.cell 3, hr.cell 0, hr.cell 1, hr.cell 2⟩ (fun hH => ?_)
          clear hK K
          try (simp only [Act.put, List.setIfInBounds_toArray, List.set_cons_zero, List.set_cons_succ])
          refine tk 46 hH ?_
          refine rd2 47 51 (fun K hK => ?hc78q47) (fun K hK => ?hc78q51)
          case hc78q47 =>
           go_simp
           refine (HE.out _).mono ?_
           rintro e v79 ⟨rfl, bb⟩
           go_wp2_with fail
           replace hp0 := hp0.below bb hp0.lt
           replace hr := hr.below bb hr.lt
           replace hb := hb.on bb
           clear bb
           refine hK.out _ _ ⟨hp0.cell 0, hp0.cell 1, hp0.cell 2, hp0.cell 3, hr.cell 0, hr.cell 1, hr.cell 2⟩ (fun hH => ?_)
           clear hK K
           try (simp only [Act.put, List.setIfInBounds_toArray, List.set_cons_zero, List.set_cons_succ])
           refine tk 48 hH ?_
           refine tk 49 hH ?_
           refine tk 50 hH ?_
           refine rd1 51 (fun K hK => ?_)
           go_simp
           try go_wp2_with fail
           have lb81 := hb.size
           have l81hp0 := hp0.lt
           have l81hr := hr.lt
           replace hp0 := hp0.alloc (.cells #[.int .i32 0, .int .i32 0, .int .i32 0] 25)
           replace hr := hr.alloc (.cells #[.int .i32 0, .int .i32 0, .int .i32 0] 25)
           have n81 := Blk.new v79 25 #[.int .i32 0, .int .i32 0, .int .i32 0]
           replace hb := hb.alloc hb.size (.cells #[.int .i32 0, .int .i32 0, .int .i32 0] 25)
           generalize v79.alloc (.cells #[.int .i32 0, .int .i32 0, .int .i32 0] 25) = v81 at *
           generalize v79.heap.size = g81 at *
           refine hK.out _ _ ⟨hp0.cell 0, hp0.cell 1, hp0.cell 2, hp0.cell 3, hr.cell 0, hr.cell 1, hr.cell 2⟩ (fun hH => ?_)
           clear hK K
           try (simp only [Act.put, List.setIfInBounds_toArray, List.set_cons_zero, List.set_cons_succ])
           refine rd1 52 (fun K hK => ?_)
           have c0 : v81.cell? ⟨g81, 0, none⟩ = some (.int .i32 0) := n81.cell 0
           have z0 := n81.frozen 0
           have c1 : v81.cell? ⟨g81, 1, none⟩ = some (.int .i32 0) := n81.cell 1
           have z1 := n81.frozen 1
           have c2 : v81.cell? ⟨g81, 2, none⟩ = some (.int .i32 0) := n81.cell 2
           have z2 := n81.frozen 2
           go_simp
           try go_wp2_with fail
           replace hp0 := (((hp0.fr g81 0 (by omega) (.int .i32 y0)).fr g81 1 (by omega) (.int .i32 y1)).fr g81 2 (by omega) (.int .i32 y2))
           replace hr := (((hr.fr g81 0 (by omega) (.int .i32 y0)).fr g81 1 (by omega) (.int .i32 y1)).fr g81 2 (by omega) (.int .i32 y2))
           replace n81 := (((n81.set_ 0 (.int .i32 y0)).set_ 1 (.int .i32 y1)).set_ 2 (.int .i32 y2))
           replace hb := (((hb.sc g81 0 (by omega) (.int .i32 y0)).sc g81 1 (by omega) (.int .i32 y1)).sc g81 2 (by omega) (.int .i32 y2))
           clear c0 z0 c1 z1 c2 z2
           generalize (((v81.setCell ⟨g81, 0, none⟩ (.int .i32 y0)).setCell ⟨g81, 1, none⟩ (.int .i32 y1)).setCell ⟨g81, 2, none⟩ (.int .i32 y2)) = v83 at *
           refine hK.out _ _ ⟨hp0.cell 0, hp0.cell 1, hp0.cell 2, hp0.cell 3, hr.cell 0, hr.cell 1, hr.cell 2⟩ (fun hH => ?_)
           clear hK K
           try (simp only [Act.put, List.setIfInBounds_toArray, List.set_cons_zero, List.set_cons_succ])
           refine tk 53 hH ?_
           refine wpAnyH_done ?hru84 ?hqu84 _
           case hru84 => kernel_rfl
           refine NoPanic.normal ?_
           try go_wp2_with fail
           go_meet
           exact ⟨g81, rfl, n81, hr, hb⟩
          case hc78q51 =>
           go_simp
           try go_wp2_with fail
           have lb85 := hb.size
           have l85hp0 := hp0.lt
           have l85hr := hr.lt
           replace hp0 := hp0.alloc (.cells #[.int .i32 0, .int .i32 0, .int .i32 0] 25)
           replace hr := hr.alloc (.cells #[.int .i32 0, .int .i32 0, .int .i32 0] 25)
           have n85 := Blk.new W61 25 #[.int .i32 0, .int .i32 0, .int .i32 0]
           replace hb := hb.alloc hb.size (.cells #[.int .i32 0, .int .i32 0, .int .i32 0] 25)
           generalize W61.alloc (.cells #[.int .i32 0, .int .i32 0, .int .i32 0] 25) = v85 at *
           generalize W61.heap.size = g85 at *
           refine hK.out _ _ ⟨hp0.cell 0, hp0.cell 1, hp0.cell 2, hp0.cell 3, hr.cell 0, hr.cell 1, hr.cell 2⟩ (fun hH => ?_)
           clear hK K
           try (simp only [Act.put, List.setIfInBounds_toArray, List.set_cons_zero, List.set_cons_succ])
           refine rd1 47 (fun K hK => ?_)
           go_simp
           refine (HE.out _).mono ?_
           rintro e v87 ⟨rfl, bb⟩
           go_wp2_with fail
           replace hp0 := hp0.below bb hp0.lt
           replace hr := hr.below bb hr.lt
           replace n85 := n85.below bb n85.lt
           replace hb := hb.on bb
           clear bb
           refine hK.out _ _ ⟨hp0.cell 0, hp0.cell 1, hp0.cell 2, hp0.cell 3, hr.cell 0, hr.cell 1, hr.cell 2⟩ (fun hH => ?_)
           clear hK K
           try (simp only [Act.put, List.setIfInBounds_toArray, List.set_cons_zero, List.set_cons_succ])
           refine tk 48 hH ?_
           refine tk 49 hH ?_
           refine tk 50 hH ?_
           refine rd1 52 (fun K hK => ?_)
           have c0 : v87.cell? ⟨g85, 0, none⟩ = some (.int .i32 0) := n85.cell 0
           have z0 := n85.frozen 0
           have c1 : v87.cell? ⟨g85, 1, none⟩ = some (.int .i32 0) := n85.cell 1
           have z1 := n85.frozen 1
           have c2 : v87.cell? ⟨g85, 2, none⟩ = some (.int .i32 0) := n85.cell 2
           have z2 := n85.frozen 2
           go_simp
           try go_wp2_with fail
           replace hp0 := (((hp0.fr g85 0 (by omega) (.int .i32 y0)).fr g85 1 (by omega) (.int .i32 y1)).fr g85 2 (by omega) (.int .i32 y2))
           replace hr := (((hr.fr g85 0 (by omega) (.int .i32 y0)).fr g85 1 (by omega) (.int .i32 y1)).fr g85 2 (by omega) (.int .i32 y2))
           replace n85 := (((n85.set_ 0 (.int .i32 y0)).set_ 1 (.int .i32 y1)).set_ 2 (.int .i32 y2))
           replace hb := (((hb.sc g85 0 (by omega) (.int .i32 y0)).sc g85 1 (by omega) (.int .i32 y1)).sc g85 2 (by omega) (.int .i32 y2))
           clear c0 z0 c1 z1 c2 z2
           generalize (((v87.setCell ⟨g85, 0, none⟩ (.int .i32 y0)).setCell ⟨g85, 1, none⟩ (.int .i32 y1)).setCell ⟨g85, 2, none⟩ (.int .i32 y2)) = v89 at *
           refine hK.out _ _ ⟨hp0.cell 0, hp0.cell 1, hp0.cell 2, hp0.cell 3, hr.cell 0, hr.cell 1, hr.cell 2⟩ (fun hH => ?_)
           clear hK K
           try (simp only [Act.put, List.setIfInBounds_toArray, List.set_cons_zero, List.set_cons_succ])
           refine tk 53 hH ?_
           refine wpAnyH_done ?hru90 ?hqu90 _
           case hru90 => kernel_rfl
           refine NoPanic.normal ?_
           try go_wp2_with fail
           go_meet
           exact ⟨g85, rfl, n85, hr, hb⟩
         case hc76q51 =>
          go_simp
          try go_wp2_with fail
          have lb91 := hb.size
          have l91hp0 := hp0.lt
          have l91hr := hr.lt
          replace hp0 := hp0.alloc (.cells #[.int .i32 0, .int .i32 0, .int .i32 0] 25)
          replace hr := hr.alloc (.cells #[.int .i32 0, .int .i32 0, .int .i32 0] 25)
          have n91 := Blk.new W61 25 #[.int .i32 0, .int .i32 0, .int .i32 0]
          replace hb := hb.alloc hb.size (.cells #[.int .i32 0, .int .i32 0, .int .i32 0] 25)
          generalize W61.alloc (.cells #[.int .i32 0, .int .i32 0, .int .i32 0] 25) = v91 at *
          generalize W61.heap.size = g91 at *
          refine hK.out _ _ ⟨hp0.cell 0, hp0.cell 1, hp0.cell 2, hp0.cell 3, hr.cell 0, hr.cell 1, hr.cell 2⟩ (fun hH => ?_)
          clear hK K
          try (simp only [Act.put, List.setIfInBounds_toArray, List.set_cons_zero, List.set_cons_succ])
          refine rd1 45 (fun K hK => ?_)
          go_simp
          refine (Hd.out _).mono ?_
          rintro e w' ⟨rfl, rfl⟩
          go_wp2_with fail
          refine hK.out _ _ ⟨hp0.cell 0, hp0.cell 1, hp0.cell 2, hp0.cell 3, hr.cell 0, hr.cell 1, hr.cell 2⟩ (fun hH => ?_)
          clear hK K
          try (simp only [Act.put, List.setIfInBounds_toArray, List.set_cons_zero, List.set_cons_succ])
          refine tk 46 hH ?_
          refine rd1 47 (fun K hK => ?_)
          go_simp
          refine (HE.out _).mono ?_
          rintro e v95 ⟨rfl, bb⟩
          go_wp2_with fail
          replace hp0 := hp0.below bb hp0.lt
          replace hr := hr.below bb hr.lt
          replace n91 := n91.below bb n91.lt
          replace hb := hb.on bb
          clear bb
          refine hK.out _ _ ⟨hp0.cell 0, hp0.cell 1, hp0.cell 2, hp0.cell 3, hr.cell 0, hr.cell 1, hr.cell 2⟩ (fun hH => ?_)
          clear hK K
          try (simp only [Act.put, List.setIfInBounds_toArray, List.set_cons_zero, List.set_cons_succ])
          refine tk 48 hH ?_
          refine tk 49 hH ?_
          refine tk 50 hH ?_
          refine rd1 52 (fun K hK => ?_)
          have c0 : v95.cell? ⟨g91, 0, none⟩ = some (.int .i32 0) := n91.cell 0
          have z0 := n91.frozen 0
          have c1 : v95.cell? ⟨g91, 1, none⟩ = some (.int .i32 0) := n91.cell 1
          have z1 := n91.frozen 1
          have c2 : v95.cell? ⟨g91, 2, none⟩ = some (.int .i32 0) := n91.cell 2
          have z2 := n91.frozen 2
          go_simp
          try go_wp2_with fail
          replace hp0 := (((hp0.fr g91 0 (by omega) (.int .i32 y0)).fr g91 1 (by omega) (.int .i32 y1)).fr g91 2 (by omega) (.int .i32 y2))
          replace hr := (((hr.fr g91 0 (by omega) (.int .i32 y0)).fr g91 1 (by omega) (.int .i32 y1)).fr g91 2 (by omega) (.int .i32 y2))
          replace n91 := (((n91.set_ 0 (.int .i32 y0)).set_ 1 (.int .i32 y1)).set_ 2 (.int .i32 y2))
          replace hb := (((hb.sc g91 0 (by omega) (.int .i32 y0)).sc g91 1 (by omega) (.int .i32 y1)).sc g91 2 (by omega) (.int .i32 y2))
          clear c0 z0 c1 z1 c2 z2
          generalize (((v95.setCell ⟨g91, 0, none⟩ (.int .i32 y0)).setCell ⟨g91, 1, none⟩ (.int .i32 y1)).setCell ⟨g91, 2, none⟩ (.int .i32 y2)) = v97 at *
          refine hK.out _ _ ⟨hp0.cell 0, hp0.cell 1, hp0.cell 2, hp0.cell 3, hr.cell 0, hr.cell 1, hr.cell 2⟩ (fun hH => ?_)
          clear hK K
          try (simp only [Act.put, List.setIfInBounds_toArray, List.set_cons_zero, List.set_cons_succ])
          refine tk 53 hH ?_
          refine wpAnyH_done ?hru98 ?hqu98 _
          case hru98 => kernel_rfl
          refine NoPanic.normal ?_
          try go_wp2_with fail
          go_meet
          exact ⟨g91, rfl, n91, hr, hb⟩
        case hc74q51 =>
         go_simp
         try go_wp2_with fail
         have lb99 := hb.size
         have l99hp0 := hp0.lt
         have l99hr := hr.lt
         replace hp0 := hp0.alloc (.cells #[.int .i32 0, .int .i32 0, .int .i32 0] 25)
         replace hr := hr.alloc (.cells #[.int .i32 0, .int .i32 0, .int .i32 0] 25)
         have n99 := Blk.new W61 25 #[.int .i32 0, .int .i32 0, .int .i32 0]
         replace hb := hb.alloc hb.size (.cells #[.int .i32 0, .int .i32 0, .int .i32 0] 25)
         generalize W61.alloc (.cells #[.int .i32 0, .int .i32 0, .int .i32 0] 25) = v99 at *
         generalize W61.heap.size = g99 at *
         refine hK.out _ _ ⟨hp0.cell 0, hp0.cell 1, hp0.cell 2, hp0.cell 3, hr.cell 0, hr.cell 1, hr.cell 2⟩ (fun hH => ?_)
         clear hK K
         try (simp only [Act.put, List.setIfInBounds_toArray, List.set_cons_zero, List.set_cons_succ])
         refine rd1 39 (fun K hK => ?_)
         go_simp
         refine (Hc.out _).mono ?_
         rintro e w' ⟨rfl, rfl⟩
         go_wp2_with fail
         refine hK.out _ _ ⟨hp0.cell 0, hp0.cell 1, hp0.cell 2, hp0.cell 3, hr.cell 0, hr.cell 1, hr.cell 2⟩ (fun hH => ?_)
         clear hK K
         try (simp only [Act.put, List.setIfInBounds_toArray, List.set_cons_zero, List.set_cons_succ])
         refine tk 40 hH ?_
         refine rd1 45 (fun K hK => ?_)
         go_simp
         refine (Hd.out _).mono ?_
         rintro e w' ⟨rfl, rfl⟩
         go_wp2_with fail
         refine hK.out _ _ ⟨hp0.cell 0, hp0.cell 1, hp0.cell 2, hp0.cell 3, hr.cell 0, hr.cell 1, hr.cell 2⟩ (fun hH => ?_)
         clear hK K
         try (simp only [Act.put, List.setIfInBounds_toArray, List.set_cons_zero, List.set_cons_succ])
         refine tk 46 hH ?_
         refine rd1 47 (fun K hK => ?_)
         go_simp
         refine (HE.out _).mono ?_
         rintro e v105 ⟨rfl, bb⟩
         go_wp2_with fail
         replace hp0 := hp0.below bb hp0.lt
         replace hr := hr.below bb hr.lt
         replace n99 := n99.below bb n99.lt
         replace hb := hb.on bb
         clear bb
         refine hK.out _ _ ⟨hp0.cell 0, hp0.cell 1, hp0.cell 2, hp0.cell 3, hr.cell 0, hr.cell 1, hr.cell 2⟩ (fun hH => ?_)
         clear hK K
         try (simp only [Act.put, List.setIfInBounds_toArray, List.set_cons_zero, List.set_cons_succ])
         refine tk 48 hH ?_
         refine tk 49 hH ?_
         refine tk 50 hH ?_
         refine rd1 52 (fun K hK => ?_)
         have c0 : v105.cell? ⟨g99, 0, none⟩ = some (.int .i32 0) := n99.cell 0
         have z0 := n99.frozen 0
         have c1 : v105.cell? ⟨g99, 1, none⟩ = some (.int .i32 0) := n99.cell 1
         have z1 := n99.frozen 1
         have c2 : v105.cell? ⟨g99, 2, none⟩ = some (.int .i32 0) := n99.cell 2
         have z2 := n99.frozen 2
         go_simp
         try go_wp2_with fail
         replace hp0 := (((hp0.fr g99 0 (by omega) (.int .i32 y0)).fr g99 1 (by omega) (.int .i32 y1)).fr g99 2 (by omega) (.int .i32 y2))
         replace hr := (((hr.fr g99 0 (by omega) (.int .i32 y0)).fr g99 1 (by omega) (.int .i32 y1)).fr g99 2 (by omega) (.int .i32 y2))
         replace n99 := (((n99.set_ 0 (.int .i32 y0)).set_ 1 (.int .i32 y1)).set_ 2 (.int .i32 y2))
         replace hb := (((hb.sc g99 0 (by omega) (.int .i32 y0)).sc g99 1 (by omega) (.int .i32 y1)).sc g99 2 (by omega) (.int .i32 y2))
         clear c0 z0 c1 z1 c2 z2
         generalize (((v105.setCell ⟨g99, 0, none⟩ (.int .i32 y0)).setCell ⟨g99, 1, none⟩ (.int .i32 y1)).setCell ⟨g99, 2, none⟩ (.int .i32 y2)) = v107 at *
         refine hK.out _ _ ⟨hp0.cell 0, hp0.cell 1, hp0.cell 2, hp0.cell 3, hr.cell 0, hr.cell 1, hr.cell 2⟩ (fun hH => ?_)
         clear hK K
         try (simp only [Act.put, List.setIfInBounds_toArray, List.set_cons_zero, List.set_cons_succ])
         refine tk 53 hH ?_
         refine wpAnyH_done ?hru108 ?hqu108 _
         case hru108 => kernel_rfl
         refine NoPanic.normal ?_
         try go_wp2_with fail
         go_meet
         exact ⟨g99, rfl, n99, hr, hb⟩
       case hc72q51 =>
        go_simp
        try go_wp2_with fail
        have lb109 := hb.size
        have l109hp0 := hp0.lt
        have l109hr := hr.lt
        replace hp0 := hp0.alloc (.cells #[.int .i32 0, .int .i32 0, .int .i32 0] 25)
        replace hr := hr.alloc (.cells #[.int .i32 0, .int .i32 0, .int .i32 0] 25)
        have n109 := Blk.new W61 25 #[.int .i32 0, .int .i32 0, .int .i32 0]
        replace hb := hb.alloc hb.size (.cells #[.int .i32 0, .int .i32 0, .int .i32 0] 25)
        generalize W61.alloc (.cells #[.int .i32 0, .int .i32 0, .int .i32 0] 25) = v109 at *
        generalize W61.heap.size = g109 at *
        refine hK.out _ _ ⟨hp0.cell 0, hp0.cell 1, hp0.cell 2, hp0.cell 3, hr.cell 0, hr.cell 1, hr.cell 2⟩ (fun hH => ?_)
        clear hK K
        try (simp only [Act.put, List.setIfInBounds_toArray, List.set_cons_zero, List.set_cons_succ])
        refine rd1 33 (fun K hK => ?_)
        go_simp
        refine (Hb.out _).mono ?_
        rintro e w' ⟨rfl, rfl⟩
        go_wp2_with fail
        refine hK.out _ _ ⟨hp0.cell 0, hp0.cell 1, hp0.cell 2, hp0.cell 3, hr.cell 0, hr.cell 1, hr.cell 2⟩ (fun hH => ?_)
        clear hK K
        try (simp only [Act.put, List.setIfInBounds_toArray, List.set_cons_zero, List.set_cons_succ])
        refine tk 34 hH ?_
        refine rd1 39 (fun K hK => ?_)
        go_simp
        refine (Hc.out _).mono ?_
        rintro e w' ⟨rfl, rfl⟩
        go_wp2_with fail
        refine hK.out _ _ ⟨hp0.cell 0, hp0.cell 1, hp0.cell 2, hp0.cell 3, hr.cell 0, hr.cell 1, hr.cell 2⟩ (fun hH => ?_)
        clear hK K
        try (simp only [Act.put, List.setIfInBounds_toArray, List.set_cons_zero, List.set_cons_succ])
        refine tk 40 hH ?_
        refine rd1 45 (fun K hK => ?_)
        go_simp
        refine (Hd.out _).mono ?_
        rintro e w' ⟨rfl, rfl⟩
        go_wp2_with fail
        refine hK.out _ _ ⟨hp0.cell 0, hp0.cell 1, hp0.cell 2, hp0.cell 3, hr.cell 0, hr.cell 1, hr.cell 2⟩ (fun hH => ?_)
        clear hK K
        try (simp only [Act.put, List.setIfInBounds_toArray, List.set_cons_zero, List.set_cons_succ])
        refine tk 46 hH ?_
        refine rd1 47 (fun K hK => ?_)
        go_simp
        refine (HE.out _).mono ?_
        rintro e v117 ⟨rfl, bb⟩
        go_wp2_with fail
        replace hp0 := hp0.below bb hp0.lt
        replace hr := hr.below bb hr.lt
        replace n109 := n109.below bb n109.lt
        replace hb := hb.on bb
        clear bb
        refine hK.out _ _ ⟨hp0.cell 0, hp0.cell 1, hp0.cell 2, hp0.cell 3, hr.cell 0, hr.cell 1, hr.cell 2⟩ (fun hH => ?_)
        clear hK K
        try (simp only [Act.put, List.setIfInBounds_toArray, List.set_cons_zero, List.set_cons_succ])
        refine tk 48 hH ?_
        refine tk 49 hH ?_
        refine tk 50 hH ?_
        refine rd1 52 (fun K hK => ?_)
        have c0 : v117.cell? ⟨g109, 0, none⟩ = some (.int .i32 0) := n109.cell 0
        have z0 := n109.frozen 0
        have c1 : v117.cell? ⟨g109, 1, none⟩ = some (.int .i32 0) := n109.cell 1
        have z1 := n109.frozen 1
        have c2 : v117.cell? ⟨g109, 2, none⟩ = some (.int .i32 0) := n109.cell 2
        have z2 := n109.frozen 2
        go_simp
        try go_wp2_with fail
        replace hp0 := (((hp0.fr g109 0 (by omega) (.int .i32 y0)).fr g109 1 (by omega) (.int .i32 y1)).fr g109 2 (by omega) (.int .i32 y2))
        replace hr := (((hr.fr g109 0 (by omega) (.int .i32 y0)).fr g109 1 (by omega) (.int .i32 y1)).fr g109 2 (by omega) (.int .i32 y2))
        replace n109 := (((n109.set_ 0 (.int .i32 y0)).set_ 1 (.int .i32 y1)).set_ 2 (.int .i32 y2))
        replace hb := (((hb.sc g109 0 (by omega) (.int .i32 y0)).sc g109 1 (by omega) (.int .i32 y1)).sc g109 2 (by omega) (.int .i32 y2))
        clear c0 z0 c1 z1 c2 z2
        generalize (((v117.setCell ⟨g109, 0, none⟩ (.int .i32 y0)).setCell ⟨g109, 1, none⟩ (.int .i32 y1)).setCell ⟨g109, 2, none⟩ (.int .i32 y2)) = v119 at *
        refine hK.out _ _ ⟨hp0.cell 0, hp0.cell 1, hp0.cell 2, hp0.cell 3, hr.cell 0, hr.cell 1, hr.cell 2⟩ (fun hH => ?_)
        clear hK K
        try (simp only [Act.put, List.setIfInBounds_toArray, List.set_cons_zero, List.set_cons_succ])
        refine tk 53 hH ?_
        refine wpAnyH_done ?hru120 ?hqu120 _
        case hru120 => kernel_rfl
        refine NoPanic.normal ?_
        try go_wp2_with fail
        go_meet
        exact ⟨g109, rfl, n109, hr, hb⟩
      case hc70q51 =>
       go_simp
       try go_wp2_with fail
       have lb121 := hb.size
       have l121hp0 := hp0.lt
       have l121hr := hr.lt
       replace hp0 := hp0.alloc (.cells #[.int .i32 0, .int .i32 0, .int .i32 0] 25)
       replace hr := hr.alloc (.cells #[.int .i32 0, .int .i32 0, .int .i32 0] 25)
       have n121 := Blk.new W61 25 #[.int .i32 0, .int .i32 0, .int .i32 0]
       replace hb := hb.alloc hb.size (.cells #[.int .i32 0, .int .i32 0, .int .i32 0] 25)
       generalize W61.alloc (.cells #[.int .i32 0, .int .i32 0, .int .i32 0] 25) = v121 at *
       generalize W61.heap.size = g121 at *
       refine hK.out _ _ ⟨hp0.cell 0, hp0.cell 1, hp0.cell 2, hp0.cell 3, hr.cell 0, hr.cell 1, hr.cell 2⟩ (fun hH => ?_)
       clear hK K
       try (simp only [Act.put, List.setIfInBounds_toArray, List.set_cons_zero, List.set_cons_succ])
       refine rd1 28 (fun K hK => ?_)
       go_simp
       refine (Ha.out _).mono ?_
       rintro e w' ⟨rfl, rfl⟩
       go_wp2_with fail
       refine hK.out _ _ ⟨hp0.cell 0, hp0.cell 1, hp0.cell 2, hp0.cell 3, hr.cell 0, hr.cell 1, hr.cell 2⟩ (fun hH => ?_)
       clear hK K
       try (simp only [Act.put, List.setIfInBounds_toArray, List.set_cons_zero, List.set_cons_succ])
       refine rd1 33 (fun K hK => ?_)
       go_simp
       refine (Hb.out _).mono ?_
       rintro e w' ⟨rfl, rfl⟩
       go_wp2_with fail
       refine hK.out _ _ ⟨hp0.cell 0, hp0.cell 1, hp0.cell 2, hp0.cell 3, hr.cell 0, hr.cell 1, hr.cell 2⟩ (fun hH => ?_)
       clear hK K
       try (simp only [Act.put, List.setIfInBounds_toArray, List.set_cons_zero, List.set_cons_succ])
       refine tk 34 hH ?_
       refine rd1 39 (fun K hK => ?_)
       go_simp
       refine (Hc.out _).mono ?_
       rintro e w' ⟨rfl, rfl⟩
       go_wp2_with fail
       refine hK.out _ _ ⟨hp0.cell 0, hp0.cell 1, hp0.cell 2, hp0.cell 3, hr.cell 0, hr.cell 1, hr.cell 2⟩ (fun hH => ?_)
       clear hK K
       try (simp only [Act.put, List.setIfInBounds_toArray, List.set_cons_zero, List.set_cons_succ])
       refine tk 40 hH ?_
       refine rd1 45 (fun K hK => ?_)
       go_simp
       refine (Hd.out _).mono ?_
       rintro e w' ⟨rfl, rfl⟩
       go_wp2_with fail
       refine hK.out _ _ ⟨hp0.cell 0, hp0.cell 1, hp0.cell 2, hp0.cell 3, hr.cell 0, hr.cell 1, hr.cell 2⟩ (fun hH => ?_)
       clear hK K
       try (simp only [Act.put, List.setIfInBounds_toArray, List.set_cons_zero, List.set_cons_succ])
       refine tk 46 hH ?_
       refine rd1 47 (fun K hK => ?_)
       go_simp
       refine (HE.out _).mono ?_
       rintro e v131 ⟨rfl, bb⟩
       go_wp2_with fail
       replace hp0 := hp0.below bb hp0.lt
       replace hr := hr.below bb hr.lt
       replace n121 := n121.below bb n121.lt
       replace hb := hb.on bb
       clear bb
       refine hK.out _ _ ⟨hp0.cell 0, hp0.cell 1, hp0.cell 2, hp0.cell 3, hr.cell 0, hr.cell 1, hr.cell 2⟩ (fun hH => ?_)
       clear hK K
       try (simp only [Act.put, List.setIfInBounds_toArray, List.set_cons_zero, List.set_cons_succ])
       refine tk 48 hH ?_
       refine tk 49 hH ?_
       refine tk 50 hH ?_
       refine rd1 52 (fun K hK => ?_)
       have c0 : v131.cell? ⟨g121, 0, none⟩ = some (.int .i32 0) := n121.cell 0
       have z0 := n121.frozen 0
       have c1 : v131.cell? ⟨g121, 1, none⟩ = some (.int .i32 0) := n121.cell 1
       have z1 := n121.frozen 1
       have c2 : v131.cell? ⟨g121, 2, none⟩ = some (.int .i32 0) := n121.cell 2
       have z2 := n121.frozen 2
       go_simp
       try go_wp2_with fail
       replace hp0 := (((hp0.fr g121 0 (by omega) (.int .i32 y0)).fr g121 1 (by omega) (.int .i32 y1)).fr g121 2 (by omega) (.int .i32 y2))
       replace hr := (((hr.fr g121 0 (by omega) (.int .i32 y0)).fr g121 1 (by omega) (.int .i32 y1)).fr g121 2 (by omega) (.int .i32 y2))
       replace n121 := (((n121.set_ 0 (.int .i32 y0)).set_ 1 (.int .i32 y1)).set_ 2 (.int .i32 y2))
       replace hb := (((hb.sc g121 0 (by omega) (.int .i32 y0)).sc g121 1 (by omega) (.int .i32 y1)).sc g121 2 (by omega) (.int .i32 y2))
       clear c0 z0 c1 z1 c2 z2
       generalize (((v131.setCell ⟨g121, 0, none⟩ (.int .i32 y0)).setCell ⟨g121, 1, none⟩ (.int .i32 y1)).setCell ⟨g121, 2, none⟩ (.int .i32 y2)) = v133 at *
       refine hK.out _ _ ⟨hp0.cell 0, hp0.cell 1, hp0.cell 2, hp0.cell 3, hr.cell 0, hr.cell 1, hr.cell 2⟩ (fun hH => ?_)
       clear hK K
       try (simp only [Act.put, List.setIfInBounds_toArray, List.set_cons_zero, List.set_cons_succ])
       refine tk 53 hH ?_
       refine wpAnyH_done ?hru134 ?hqu134 _
       case hru134 => kernel_rfl
       refine NoPanic.normal ?_
       try go_wp2_with fail
       go_meet
       exact ⟨g121, rfl, n121, hr, hb⟩
     case hc68q51 =>
      go_simp
      try go_wp2_with fail
      have lb135 := hb.size
      have l135hp0 := hp0.lt
      have l135hr := hr.lt
      replace hp0 := hp0.alloc (.cells #[.int .i32 0, .int .i32 0, .int .i32 0] 25)
      replace hr := hr.alloc (.cells #[.int .i32 0, .int .i32 0, .int .i32 0] 25)
      have n135 := Blk.new W61 25 #[.int .i32 0, .int .i32 0, .int .i32 0]
      replace hb := hb.alloc hb.size (.cells #[.int .i32 0, .int .i32 0, .int .i32 0] 25)
      generalize W61.alloc (.cells #[.int .i32 0, .int .i32 0, .int .i32 0] 25) = v135 at *
      generalize W61.heap.size = g135 at *
      refine hK.out _ _ ⟨hp0.cell 0, hp0.cell 1, hp0.cell 2, hp0.cell 3, hr.cell 0, hr.cell 1, hr.cell 2⟩ (fun hH => ?_)
      clear hK K
      try (simp only [Act.put, List.setIfInBounds_toArray, List.set_cons_zero, List.set_cons_succ])
      refine rd1 21 (fun K hK => ?_)
      go_simp
      refine (Ht.out _).mono ?_
      rintro e w' ⟨rfl, rfl⟩
      go_wp2_with fail
      refine hK.out _ _ ⟨hp0.cell 0, hp0.cell 1, hp0.cell 2, hp0.cell 3, hr.cell 0, hr.cell 1, hr.cell 2⟩ (fun hH => ?_)
      clear hK K
      try (simp only [Act.put, List.setIfInBounds_toArray, List.set_cons_zero, List.set_cons_succ])
      refine tk 22 hH ?_
      refine tk 23 hH ?_
      refine rd1 28 (fun K hK => ?_)
      go_simp
      refine (Ha.out _).mono ?_
      rintro e w' ⟨rfl, rfl⟩
      go_wp2_with fail
      refine hK.out _ _ ⟨hp0.cell 0, hp0.cell 1, hp0.cell 2, hp0.cell 3, hr.cell 0, hr.cell 1, hr.cell 2⟩ (fun hH => ?_)
      clear hK K
      try (simp only [Act.put, List.setIfInBounds_toArray, List.set_cons_zero, List.set_cons_succ])
      refine rd1 33 (fun K hK => ?_)
      go_simp
      refine (Hb.out _).mono ?_
      rintro e w' ⟨rfl, rfl⟩
      go_wp2_with fail
      refine hK.out _ _ ⟨hp0.cell 0, hp0.cell 1, hp0.cell 2, hp0.cell 3, hr.cell 0, hr.cell 1, hr.cell 2⟩ (fun hH => ?_)
      clear hK K
      try (simp only [Act.put, List.setIfInBounds_toArray, List.set_cons_zero, List.set_cons_succ])
      refine tk 34 hH ?_
      refine rd1 39 (fun K hK => ?_)
      go_simp
      refine (Hc.out _).mono ?_
      rintro e w' ⟨rfl, rfl⟩
      go_wp2_with fail
      refine hK.out _ _ ⟨hp0.cell 0, hp0.cell 1, hp0.cell 2, hp0.cell 3, hr.cell 0, hr.cell 1, hr.cell 2⟩ (fun hH => ?_)
      clear hK K
      try (simp only [Act.put, List.setIfInBounds_toArray, List.set_cons_zero, List.set_cons_succ])
      refine tk 40 hH ?_
      refine rd1 45 (fun K hK => ?_)
      go_simp
      refine (Hd.out _).mono ?_
      rintro e w' ⟨rfl, rfl⟩
      go_wp2_with fail
      refine hK.out _ _ ⟨hp0.cell 0, hp0.cell 1, hp0.cell 2, hp0.cell 3, hr.cell 0, hr.cell 1, hr.cell 2⟩ (fun hH => ?_)
      clear hK K
      try (simp only [Act.put, List.setIfInBounds_toArray, List.set_cons_zero, List.set_cons_succ])
      refine tk 46 hH ?_
      refine rd1 47 (fun K hK => ?_)
      go_simp
      refine (HE.out _).mono ?_
      rintro e v147 ⟨rfl, bb⟩
      go_wp2_with fail
      replace hp0 := hp0.below bb hp0.lt
      replace hr := hr.below bb hr.lt
      replace n135 := n135.below bb n135.lt
      replace hb := hb.on bb
      clear bb
      refine hK.out _ _ ⟨hp0.cell 0, hp0.cell 1, hp0.cell 2, hp0.cell 3, hr.cell 0, hr.cell 1, hr.cell 2⟩ (fun hH => ?_)
      clear hK K
      try (simp only [Act.put, List.setIfInBounds_toArray, List.set_cons_zero, List.set_cons_succ])
      refine tk 48 hH ?_
      refine tk 49 hH ?_
      refine tk 50 hH ?_
      refine rd1 52 (fun K hK => ?_)
      have c0 : v147.cell? ⟨g135, 0, none⟩ = some (.int .i32 0) := n135.cell 0
      have z0 := n135.frozen 0
      have c1 : v147.cell? ⟨g135, 1, none⟩ = some (.int .i32 0) := n135.cell 1
      have z1 := n135.frozen 1
      have c2 : v147.cell? ⟨g135, 2, none⟩ = some (.int .i32 0) := n135.cell 2
      have z2 := n135.frozen 2
      go_simp
      try go_wp2_with fail
      replace hp0 := (((hp0.fr g135 0 (by omega) (.int .i32 y0)).fr g135 1 (by omega) (.int .i32 y1)).fr g135 2 (by omega) (.int .i32 y2))
      replace hr := (((hr.fr g135 0 (by omega) (.int .i32 y0)).fr g135 1 (by omega) (.int .i32 y1)).fr g135 2 (by omega) (.int .i32 y2))
      replace n135 := (((n135.set_ 0 (.int .i32 y0)).set_ 1 (.int .i32 y1)).set_ 2 (.int .i32 y2))
      replace hb := (((hb.sc g135 0 (by omega) (.int .i32 y0)).sc g135 1 (by omega) (.int .i32 y1)).sc g135 2 (by omega) (.int .i32 y2))
      clear c0 z0 c1 z1 c2 z2
      generalize (((v147.setCell ⟨g135, 0, none⟩ (.int .i32 y0)).setCell ⟨g135, 1, none⟩ (.int .i32 y1)).setCell ⟨g135, 2, none⟩ (.int .i32 y2)) = v149 at *
      refine hK.out _ _ ⟨hp0.cell 0, hp0.cell 1, hp0.cell 2, hp0.cell 3, hr.cell 0, hr.cell 1, hr.cell 2⟩ (fun hH => ?_)
      clear hK K
      try (simp only [Act.put, List.setIfInBounds_toArray, List.set_cons_zero, List.set_cons_succ])
      refine tk 53 hH ?_
      refine wpAnyH_done ?hru150 ?hqu150 _
      case hru150 => kernel_rfl
      refine NoPanic.normal ?_
      try go_wp2_with fail
      go_meet
      exact ⟨g135, rfl, n135, hr, hb⟩
    case hc66q51 =>
     go_simp
     try go_wp2_with fail
     have lb151 := hb.size
     have l151hp0 := hp0.lt
     have l151hr := hr.lt
     replace hp0 := hp0.alloc (.cells #[.int .i32 0, .int .i32 0, .int .i32 0] 25)
     replace hr := hr.alloc (.cells #[.int .i32 0, .int .i32 0, .int .i32 0] 25)
     have n151 := Blk.new W61 25 #[.int .i32 0, .int .i32 0, .int .i32 0]
     replace hb := hb.alloc hb.size (.cells #[.int .i32 0, .int .i32 0, .int .i32 0] 25)
     generalize W61.alloc (.cells #[.int .i32 0, .int .i32 0, .int .i32 0] 25) = v151 at *
     generalize W61.heap.size = g151 at *
     refine hK.out _ _ ⟨hp0.cell 0, hp0.cell 1, hp0.cell 2, hp0.cell 3, hr.cell 0, hr.cell 1, hr.cell 2⟩ (fun hH => ?_)
     clear hK K
     try (simp only [Act.put, List.setIfInBounds_toArray, List.set_cons_zero, List.set_cons_succ])
     refine rd1 16 (fun K hK => ?_)
     go_simp
     refine (Hz.out _).mono ?_
     rintro e w' ⟨rfl, rfl⟩
     go_wp2_with fail
     refine hK.out _ _ ⟨hp0.cell 0, hp0.cell 1, hp0.cell 2, hp0.cell 3, hr.cell 0, hr.cell 1, hr.cell 2⟩ (fun hH => ?_)
     clear hK K
     try (simp only [Act.put, List.setIfInBounds_toArray, List.set_cons_zero, List.set_cons_succ])
     refine rd1 21 (fun K hK => ?_)
     go_simp
     refine (Ht.out _).mono ?_
     rintro e w' ⟨rfl, rfl⟩
     go_wp2_with fail
     refine hK.out _ _ ⟨hp0.cell 0, hp0.cell 1, hp0.cell 2, hp0.cell 3, hr.cell 0, hr.cell 1, hr.cell 2⟩ (fun hH => ?_)
     clear hK K
     try (simp only [Act.put, List.setIfInBounds_toArray, List.set_cons_zero, List.set_cons_succ])
     refine tk 22 hH ?_
     refine tk 23 hH ?_
     refine rd1 28 (fun K hK => ?_)
     go_simp
     refine (Ha.out _).mono ?_
     rintro e w' ⟨rfl, rfl⟩
     go_wp2_with fail
     refine hK.out _ _ ⟨hp0.cell 0, hp0.cell 1, hp0.cell 2, hp0.cell 3, hr.cell 0, hr.cell 1, hr.cell 2⟩ (fun hH => ?_)
     clear hK K
     try (simp only [Act.put, List.setIfInBounds_toArray, List.set_cons_zero, List.set_cons_succ])
     refine rd1 33 (fun K hK => ?_)
     go_simp
     refine (Hb.out _).mono ?_
     rintro e w' ⟨rfl, rfl⟩
     go_wp2_with fail
     refine hK.out _ _ ⟨hp0.cell 0, hp0.cell 1, hp0.cell 2, hp0.cell 3, hr.cell 0, hr.cell 1, hr.cell 2⟩ (fun hH => ?_)
     clear hK K
     try (simp only [Act.put, List.setIfInBounds_toArray, List.set_cons_zero, List.set_cons_succ])
     refine tk 34 hH ?_
     refine rd1 39 (fun K hK => ?_)
     go_simp
     refine (Hc.out _).mono ?_
     rintro e w' ⟨rfl, rfl⟩
     go_wp2_with fail
     refine hK.out _ _ ⟨hp0.cell 0, hp0.cell 1, hp0.cell 2, hp0.cell 3, hr.cell 0, hr.cell 1, hr.cell 2⟩ (fun hH => ?_)
     clear hK K
     try (simp only [Act.put, List.setIfInBounds_toArray, List.set_cons_zero, List.set_cons_succ])
     refine tk 40 hH ?_
     refine rd1 45 (fun K hK => ?_)
     go_simp
     refine (Hd.out _).mono ?_
     rintro e w' ⟨rfl, rfl⟩
     go_wp2_with fail
     refine hK.out _ _ ⟨hp0.cell 0, hp0.cell 1, hp0.cell 2, hp0.cell 3, hr.cell 0, hr.cell 1, hr.cell 2⟩ (fun hH => ?_)
     clear hK K
     try (simp only [Act.put, List.setIfInBounds_toArray, List.set_cons_zero, List.set_cons_succ])
     refine tk 46 hH ?_
     refine rd1 47 (fun K hK => ?_)
     go_simp
     refine (HE.out _).mono ?_
     rintro e v165 ⟨rfl, bb⟩
     go_wp2_with fail
     replace hp0 := hp0.below bb hp0.lt
     replace hr := hr.below bb hr.lt
     replace n151 := n151.below bb n151.lt
     replace hb := hb.on bb
     clear bb
     refine hK.out _ _ ⟨hp0.cell 0, hp0.cell 1, hp0.cell 2, hp0.cell 3, hr.cell 0, hr.cell 1, hr.cell 2⟩ (fun hH => ?_)
     clear hK K
     try (simp only [Act.put, List.setIfInBounds_toArray, List.set_cons_zero, List.set_cons_succ])
     refine tk 48 hH ?_
     refine tk 49 hH ?_
     refine tk 50 hH ?_
     refine rd1 52 (fun K hK => ?_)
     have c0 : v165.cell? ⟨g151, 0, none⟩ = some (.int .i32 0) := n151.cell 0
     have z0 := n151.frozen 0
     have c1 : v165.cell? ⟨g151, 1, none⟩ = some (.int .i32 0) := n151.cell 1
     have z1 := n151.frozen 1
     have c2 : v165.cell? ⟨g151, 2, none⟩ = some (.int .i32 0) := n151.cell 2
     have z2 := n151.frozen 2
     go_simp
     try go_wp2_with fail
     replace hp0 := (((hp0.fr g151 0 (by omega) (.int .i32 y0)).fr g151 1 (by omega) (.int .i32 y1)).fr g151 2 (by omega) (.int .i32 y2))
     replace hr := (((hr.fr g151 0 (by omega) (.int .i32 y0)).fr g151 1 (by omega) (.int .i32 y1)).fr g151 2 (by omega) (.int .i32 y2))
     replace n151 := (((n151.set_ 0 (.int .i32 y0)).set_ 1 (.int .i32 y1)).set_ 2 (.int .i32 y2))
     replace hb := (((hb.sc g151 0 (by omega) (.int .i32 y0)).sc g151 1 (by omega) (.int .i32 y1)).sc g151 2 (by omega) (.int .i32 y2))
     clear c0 z0 c1 z1 c2 z2
     generalize (((v165.setCell ⟨g151, 0, none⟩ (.int .i32 y0)).setCell ⟨g151, 1, none⟩ (.int .i32 y1)).setCell ⟨g151, 2, none⟩ (.int .i32 y2)) = v167 at *
     refine hK.out _ _ ⟨hp0.cell 0, hp0.cell 1, hp0.cell 2, hp0.cell 3, hr.cell 0, hr.cell 1, hr.cell 2⟩ (fun hH => ?_)
     clear hK K
     try (simp only [Act.put, List.setIfInBounds_toArray, List.set_cons_zero, List.set_cons_succ])
     refine tk 53 hH ?_
     refine wpAnyH_done ?hru168 ?hqu168 _
     case hru168 => kernel_rfl
     refine NoPanic.normal ?_
     try go_wp2_with fail
     go_meet
     exact ⟨g151, rfl, n151, hr, hb⟩
   case hc64q51 =>
    go_simp
    try go_wp2_with fail
    have lb169 := hb.size
    have l169hp0 := hp0.lt
    have l169hr := hr.lt
    replace hp0 := hp0.alloc (.cells #[.int .i32 0, .int .i32 0, .int .i32 0] 25)
    replace hr := hr.alloc (.cells #[.int .i32 0, .int .i32 0, .int .i32 0] 25)
    have n169 := Blk.new W61 25 #[.int .i32 0, .int .i32 0, .int .i32 0]
    replace hb := hb.alloc hb.size (.cells #[.int .i32 0, .int .i32 0, .int .i32 0] 25)
    generalize W61.alloc (.cells #[.int .i32 0, .int .i32 0, .int .i32 0] 25) = v169 at *
    generalize W61.heap.size = g169 at *
    refine hK.out _ _ ⟨hp0.cell 0, hp0.cell 1, hp0.cell 2, hp0.cell 3, hr.cell 0, hr.cell 1, hr.cell 2⟩ (fun hH => ?_)
    clear hK K
    try (simp only [Act.put, List.setIfInBounds_toArray, List.set_cons_zero, List.set_cons_succ])
    refine rd1 9 (fun K hK => ?_)
    go_simp
    refine (Hy.out _).mono ?_
    rintro e w' ⟨rfl, rfl⟩
    go_wp2_with fail
    refine hK.out _ _ ⟨hp0.cell 0, hp0.cell 1, hp0.cell 2, hp0.cell 3, hr.cell 0, hr.cell 1, hr.cell 2⟩ (fun hH => ?_)
    clear hK K
    try (simp only [Act.put, List.setIfInBounds_toArray, List.set_cons_zero, List.set_cons_succ])
    refine tk 10 hH ?_
    refine tk 11 hH ?_
    refine rd1 16 (fun K hK => ?_)
    go_simp
    refine (Hz.out _).mono ?_
    rintro e w' ⟨rfl, rfl⟩
    go_wp2_with fail
    refine hK.out _ _ ⟨hp0.cell 0, hp0.cell 1, hp0.cell 2, hp0.cell 3, hr.cell 0, hr.cell 1, hr.cell 2⟩ (fun hH => ?_)
    clear hK K
    try (simp only [Act.put, List.setIfInBounds_toArray, List.set_cons_zero, List.set_cons_succ])
    refine rd1 21 (fun K hK => ?_)
    go_simp
    refine (Ht.out _).mono ?_
    rintro e w' ⟨rfl, rfl⟩
    go_wp2_with fail
    refine hK.out _ _ ⟨hp0.cell 0, hp0.cell 1, hp0.cell 2, hp0.cell 3, hr.cell 0, hr.cell 1, hr.cell 2⟩ (fun hH => ?_)
    clear hK K
    try (simp only [Act.put, List.setIfInBounds_toArray, List.set_cons_zero, List.set_cons_succ])
    refine tk 22 hH ?_
    refine tk 23 hH ?_
    refine rd1 28 (fun K hK => ?_)
    go_simp
    refine (Ha.out _).mono ?_
    rintro e w' ⟨rfl, rfl⟩
    go_wp2_with fail
    refine hK.out _ _ ⟨hp0.cell 0, hp0.cell 1, hp0.cell 2, hp0.cell 3, hr.cell 0, hr.cell 1, hr.cell 2⟩ (fun hH => ?_)
    clear hK K
    try (simp only [Act.put, List.setIfInBounds_toArray, List.set_cons_zero, List.set_cons_succ])
    refine rd1 33 (fun K hK => ?_)
    go_simp
    refine (Hb.out _).mono ?_
    rintro e w' ⟨rfl, rfl⟩
    go_wp2_with fail
    refine hK.out _ _ ⟨hp0.cell 0, hp0.cell 1, hp0.cell 2, hp0.cell 3, hr.cell 0, hr.cell 1, hr.cell 2⟩ (fun hH => ?_)
    clear hK K
    try (simp only [Act.put, List.setIfInBounds_toArray, List.set_cons_zero, List.set_cons_succ])
    refine tk 34 hH ?_
    refine rd1 39 (fun K hK => ?_)
    go_simp
    refine (Hc.out _).mono ?_
    rintro e w' ⟨rfl, rfl⟩
    go_wp2_with fail
    refine hK.out _ _ ⟨hp0.cell 0, hp0.cell 1, hp0.cell 2, hp0.cell 3, hr.cell 0, hr.cell 1, hr.cell 2⟩ (fun hH => ?_)
    clear hK K
    try (simp only [Act.put, List.setIfInBounds_toArray, List.set_cons_zero, List.set_cons_succ])
    refine tk 40 hH ?_
    refine rd1 45 (fun K hK => ?_)
    go_simp
    refine (Hd.out _).mono ?_
    rintro e w' ⟨rfl, rfl⟩
    go_wp2_with fail
    refine hK.out _ _ ⟨hp0.cell 0, hp0.cell 1, hp0.cell 2, hp0.cell 3, hr.cell 0, hr.cell 1, hr.cell 2⟩ (fun hH => ?_)
    clear hK K
    try (simp only [Act.put, List.setIfInBounds_toArray, List.set_cons_zero, List.set_cons_succ])
    refine tk 46 hH ?_
    refine rd1 47 (fun K hK => ?_)
    go_simp
    refine (HE.out _).mono ?_
    rintro e v185 ⟨rfl, bb⟩
    go_wp2_with fail
    replace hp0 := hp0.below bb hp0.lt
    replace hr := hr.below bb hr.lt
    replace n169 := n169.below bb n169.lt
    replace hb := hb.on bb
    clear bb
    refine hK.out _ _ ⟨hp0.cell 0, hp0.cell 1, hp0.cell 2, hp0.cell 3, hr.cell 0, hr.cell 1, hr.cell 2⟩ (fun hH => ?_)
    clear hK K
    try (simp only [Act.put, List.setIfInBounds_toArray, List.set_cons_zero, List.set_cons_succ])
    refine tk 48 hH ?_
    refine tk 49 hH ?_
    refine tk 50 hH ?_
    refine rd1 52 (fun K hK => ?_)
    have c0 : v185.cell? ⟨g169, 0, none⟩ = some (.int .i32 0) := n169.cell 0
    have z0 := n169.frozen 0
    have c1 : v185.cell? ⟨g169, 1, none⟩ = some (.int .i32 0) := n169.cell 1
    have z1 := n169.frozen 1
    have c2 : v185.cell? ⟨g169, 2, none⟩ = some (.int .i32 0) := n169.cell 2
    have z2 := n169.frozen 2
    go_simp
    try go_wp2_with fail
    replace hp0 := (((hp0.fr g169 0 (by omega) (.int .i32 y0)).fr g169 1 (by omega) (.int .i32 y1)).fr g169 2 (by omega) (.int .i32 y2))
    replace hr := (((hr.fr g169 0 (by omega) (.int .i32 y0)).fr g169 1 (by omega) (.int .i32 y1)).fr g169 2 (by omega) (.int .i32 y2))
    replace n169 := (((n169.set_ 0 (.int .i32 y0)).set_ 1 (.int .i32 y1)).set_ 2 (.int .i32 y2))
    replace hb := (((hb.sc g169 0 (by omega) (.int .i32 y0)).sc g169 1 (by omega) (.int .i32 y1)).sc g169 2 (by omega) (.int .i32 y2))
    clear c0 z0 c1 z1 c2 z2
    generalize (((v185.setCell ⟨g169, 0, none⟩ (.int .i32 y0)).setCell ⟨g169, 1, none⟩ (.int .i32 y1)).setCell ⟨g169, 2, none⟩ (.int .i32 y2)) = v187 at *
    refine hK.out _ _ ⟨hp0.cell 0, hp0.cell 1, hp0.cell 2, hp0.cell 3, hr.cell 0, hr.cell 1, hr.cell 2⟩ (fun hH => ?_)
    clear hK K
    try (simp only [Act.put, List.setIfInBounds_toArray, List.set_cons_zero, List.set_cons_succ])
    refine tk 53 hH ?_
    refine wpAnyH_done ?hru188 ?hqu188 _
    case hru188 => kernel_rfl
    refine NoPanic.normal ?_
    try go_wp2_with fail
    go_meet
    exact ⟨g169, rfl, n169, hr, hb⟩
  case hc62q51 =>
   go_simp
   try go_wp2_with fail
   have lb189 := hb.size
   have l189hp0 := hp0.lt
   have l189hr := hr.lt
   replace hp0 := hp0.alloc (.cells #[.int .i32 0, .int .i32 0, .int .i32 0] 25)
   replace hr := hr.alloc (.cells #[.int .i32 0, .int .i32 0, .int .i32 0] 25)
   have n189 := Blk.new W61 25 #[.int .i32 0, .int .i32 0, .int .i32 0]
   replace hb := hb.alloc hb.size (.cells #[.int .i32 0, .int .i32 0, .int .i32 0] 25)
   generalize W61.alloc (.cells #[.int .i32 0, .int .i32 0, .int .i32 0] 25) = v189 at *
   generalize W61.heap.size = g189 at *
   refine hK.out _ _ ⟨hp0.cell 0, hp0.cell 1, hp0.cell 2, hp0.cell 3, hr.cell 0, hr.cell 1, hr.cell 2⟩ (fun hH => ?_)
   clear hK K
   try (simp only [Act.put, List.setIfInBounds_toArray, List.set_cons_zero, List.set_cons_succ])
   refine rd1 4 (fun K hK => ?_)
   go_simp
   refine (Hx.out _).mono ?_
   rintro e w' ⟨rfl, rfl⟩
   go_wp2_with fail
   refine hK.out _ _ ⟨hp0.cell 0, hp0.cell 1, hp0.cell 2, hp0.cell 3, hr.cell 0, hr.cell 1, hr.cell 2⟩ (fun hH => ?_)
   clear hK K
   try (simp only [Act.put, List.setIfInBounds_toArray, List.set_cons_zero, List.set_cons_succ])
   refine rd1 9 (fun K hK => ?_)
   go_simp
   refine (Hy.out _).mono ?_
   rintro e w' ⟨rfl, rfl⟩
   go_wp2_with fail
   refine hK.out _ _ ⟨hp0.cell 0, hp0.cell 1, hp0.cell 2, hp0.cell 3, hr.cell 0, hr.cell 1, hr.cell 2⟩ (fun hH => ?_)
   clear hK K
   try (simp only [Act.put, List.setIfInBounds_toArray, List.set_cons_zero, List.set_cons_succ])
   refine tk 10 hH ?_
   refine tk 11 hH ?_
   refine rd1 16 (fun K hK => ?_)
   go_simp
   refine (Hz.out _).mono ?_
   rintro e w' ⟨rfl, rfl⟩
   go_wp2_with fail
   refine hK.out _ _ ⟨hp0.cell 0, hp0.cell 1, hp0.cell 2, hp0.cell 3, hr.cell 0, hr.cell 1, hr.cell 2⟩ (fun hH => ?_)
   clear hK K
   try (simp only [Act.put, List.setIfInBounds_toArray, List.set_cons_zero, List.set_cons_succ])
   refine rd1 21 (fun K hK => ?_)
   go_simp
   refine (Ht.out _).mono ?_
   rintro e w' ⟨rfl, rfl⟩
   go_wp2_with fail
   refine hK.out _ _ ⟨hp0.cell 0, hp0.cell 1, hp0.cell 2, hp0.cell 3, hr.cell 0, hr.cell 1, hr.cell 2⟩ (fun hH => ?_)
   clear hK K
   try (simp only [Act.put, List.setIfInBounds_toArray, List.set_cons_zero, List.set_cons_succ])
   refine tk 22 hH ?_
   refine tk 23 hH ?_
   refine rd1 28 (fun K hK => ?_)
   go_simp
   refine (Ha.out _).mono ?_
   rintro e w' ⟨rfl, rfl⟩
   go_wp2_with fail
   refine hK.out _ _ ⟨hp0.cell 0, hp0.cell 1, hp0.cell 2, hp0.cell 3, hr.cell 0, hr.cell 1, hr.cell 2⟩ (fun hH => ?_)
   clear hK K
   try (simp only [Act.put, List.setIfInBounds_toArray, List.set_cons_zero, List.set_cons_succ])
   refine rd1 33 (fun K hK => ?_)
   go_simp
   refine (Hb.out _).mono ?_
   rintro e w' ⟨rfl, rfl⟩
   go_wp2_with fail
   refine hK.out _ _ ⟨hp0.cell 0, hp0.cell 1, hp0.cell 2, hp0.cell 3, hr.cell 0, hr.cell 1, hr.cell 2⟩ (fun hH => ?_)
   clear hK K
   try (simp only [Act.put, List.setIfInBounds_toArray, List.set_cons_zero, List.set_cons_succ])
   refine tk 34 hH ?_
   refine rd1 39 (fun K hK => ?_)
   go_simp
   refine (Hc.out _).mono ?_
   rintro e w' ⟨rfl, rfl⟩
   go_wp2_with fail
   refine hK.out _ _ ⟨hp0.cell 0, hp0.cell 1, hp0.cell 2, hp0.cell 3, hr.cell 0, hr.cell 1, hr.cell 2⟩ (fun hH => ?_)
   clear hK K
   try (simp only [Act.put, List.setIfInBounds_toArray, List.set_cons_zero, List.set_cons_succ])
   refine tk 40 hH ?_
   refine rd1 45 (fun K hK => ?_)
   go_simp
   refine (Hd.out _).mono ?_
   rintro e w' ⟨rfl, rfl⟩
   go_wp2_with fail
   refine hK.out _ _ ⟨hp0.cell 0, hp0.cell 1, hp0.cell 2, hp0.cell 3, hr.cell 0, hr.cell 1, hr.cell 2⟩ (fun hH => ?_)
   clear hK K
   try (simp only [Act.put, List.setIfInBounds_toArray, List.set_cons_zero, List.set_cons_succ])
   refine tk 46 hH ?_
   refine rd1 47 (fun K hK => ?_)
   go_simp
   refine (HE.out _).mono ?_
   rintro e v207 ⟨rfl, bb⟩
   go_wp2_with fail
   replace hp0 := hp0.below bb hp0.lt
   replace hr := hr.below bb hr.lt
   replace n189 := n189.below bb n189.lt
   replace hb := hb.on bb
   clear bb
   refine hK.out _ _ ⟨hp0.cell 0, hp0.cell 1, hp0.cell 2, hp0.cell 3, hr.cell 0, hr.cell 1, hr.cell 2⟩ (fun hH => ?_)
   clear hK K
   try (simp only [Act.put, List.setIfInBounds_toArray, List.set_cons_zero, List.set_cons_succ])
   refine tk 48 hH ?_
   refine tk 49 hH ?_
   refine tk 50 hH ?_
   refine rd1 52 (fun K hK => ?_)
   have c0 : v207.cell? ⟨g189, 0, none⟩ = some (.int .i32 0) := n189.cell 0
   have z0 := n189.frozen 0
   have c1 : v207.cell? ⟨g189, 1, none⟩ = some (.int .i32 0) := n189.cell 1
   have z1 := n189.frozen 1
   have c2 : v207.cell? ⟨g189, 2, none⟩ = some (.int .i32 0) := n189.cell 2
   have z2 := n189.frozen 2
   go_simp
   try go_wp2_with fail
   replace hp0 := (((hp0.fr g189 0 (by omega) (.int .i32 y0)).fr g189 1 (by omega) (.int .i32 y1)).fr g189 2 (by omega) (.int .i32 y2))
   replace hr := (((hr.fr g189 0 (by omega) (.int .i32 y0)).fr g189 1 (by omega) (.int .i32 y1)).fr g189 2 (by omega) (.int .i32 y2))
   replace n189 := (((n189.set_ 0 (.int .i32 y0)).set_ 1 (.int .i32 y1)).set_ 2 (.int .i32 y2))
   replace hb := (((hb.sc g189 0 (by omega) (.int .i32 y0)).sc g189 1 (by omega) (.int .i32 y1)).sc g189 2 (by omega) (.int .i32 y2))
   clear c0 z0 c1 z1 c2 z2
   generalize (((v207.setCell ⟨g189, 0, none⟩ (.int .i32 y0)).setCell ⟨g189, 1, none⟩ (.int .i32 y1)).setCell ⟨g189, 2, none⟩ (.int .i32 y2)) = v209 at *
   refine hK.out _ _ ⟨hp0.cell 0, hp0.cell 1, hp0.cell 2, hp0.cell 3, hr.cell 0, hr.cell 1, hr.cell 2⟩ (fun hH => ?_)
   clear hK K
   try (simp only [Act.put, List.setIfInBounds_toArray, List.set_cons_zero, List.set_cons_succ])
   refine tk 53 hH ?_
   refine wpAnyH_done ?hru210 ?hqu210 _
   case hru210 => kernel_rfl
   refine NoPanic.normal ?_
   try go_wp2_with fail
   go_meet
   exact ⟨g189, rfl, n189, hr, hb⟩
 case rest =>
  clear hp0 hr hb HE w1 w2 w3 w4 w5 w6 w7
  obtain ⟨g, rfl, hY, hr, hb⟩ := hcut
  have c0 : wc.cell? ⟨g, 0, none⟩ = some (.int .i32 y0) := hY.cell 0
  have d0 : wc.cell? ⟨w.heap.size + 1, 0, none⟩ = some (.int .i32 0) := hr.cell 0
  have zz0 := hr.frozen 0
  have c1 : wc.cell? ⟨g, 1, none⟩ = some (.int .i32 y1) := hY.cell 1
  have d1 : wc.cell? ⟨w.heap.size + 1, 1, none⟩ = some (.int .i32 0) := hr.cell 1
  have zz1 := hr.frozen 1
  have c2 : wc.cell? ⟨g, 2, none⟩ = some (.int .i32 y2) := hY.cell 2
  have d2 : wc.cell? ⟨w.heap.size + 1, 2, none⟩ = some (.int .i32 0) := hr.cell 2
  have zz2 := hr.frozen 2
  have hf : Blk (((wc.setCell ⟨w.heap.size + 1, 0, none⟩ (.int .i32 y0)).setCell ⟨w.heap.size + 1, 1, none⟩ (.int .i32 y1)).setCell ⟨w.heap.size + 1, 2, none⟩ (.int .i32 y2)) (w.heap.size + 1) 25 #[.int .i32 y0, .int .i32 y1, .int .i32 y2] := (((hr.set_ 0 (.int .i32 y0)).set_ 1 (.int .i32 y1)).set_ 2 (.int .i32 y2))
  have hbf : Below w.heap.size w (((wc.setCell ⟨w.heap.size + 1, 0, none⟩ (.int .i32 y0)).setCell ⟨w.heap.size + 1, 1, none⟩ (.int .i32 y1)).setCell ⟨w.heap.size + 1, 2, none⟩ (.int .i32 y2)) := (((hb.sc (w.heap.size + 1) 0 (by omega) (.int .i32 y0)).sc (w.heap.size + 1) 1 (by omega) (.int .i32 y1)).sc (w.heap.size + 1) 2 (by omega) (.int .i32 y2))
  go_wp2
  generalize (((wc.setCell ⟨w.heap.size + 1, 0, none⟩ (.int .i32 y0)).setCell ⟨w.heap.size + 1, 1, none⟩ (.int .i32 y1)).setCell ⟨w.heap.size + 1, 2, none⟩ (.int .i32 y2)) = wf at *
  have f0 : wf.cell? ⟨w.heap.size + 1, 0, none⟩ = some (.int .i32 y0) := hf.cell 0
  have f1 : wf.cell? ⟨w.heap.size + 1, 1, none⟩ = some (.int .i32 y1) := hf.cell 1
  have f2 : wf.cell? ⟨w.heap.size + 1, 2, none⟩ = some (.int .i32 y2) := hf.cell 2
  simp [bodyPost, results, Tryz.results23, go_sem, f0, f1, f2]
  exact HPost.out _ _ ⟨rfl, hbf⟩
end Go.Proofs.YtgmepohfkpncmaaGreat
