/- Chapter 13: where up is. -/
import Derived.Test.YtgmepohfkpncmaaGreatTurnD
namespace Go.Proofs.YtgmepohfkpncmaaGreat
open Go.RowKit
set_option linter.unusedVariables false
set_option linter.unusedSimpArgs false

def upX (q0 q1 q2 q3 : Int) : Int := 2 * (tmP q1 q3 - tmP q0 q2)
def upY (q0 q1 q2 q3 : Int) : Int := 2 * (tmP q2 q3 + tmP q0 q1)
def upZ (q0 q1 q2 q3 : Int) : Int := tmP q0 q0 - tmP q1 q1 - tmP q2 q2 + tmP q3 q3
def Ups (q0 q1 q2 q3 : Int) (w : World) (e : Ending) (w' : World) : Prop :=
 e = .returned (.agg #[.int .i32 (clampP (upX q0 q1 q2 q3)), .int .i32 (clampP (upY q0 q1 q2 q3)), .int .i32 (clampP (upZ q0 q1 q2 q3))]) ∧ Below w.heap.size w w'
theorem c_Up0 (g : Nat) (l0 l1 l2 : Int) (w : World) (hl : Blk w g 78 #[.int .i64 l0, .int .i64 l1, .int .i64 l2]) :
  Calls Tryz.prog 46 #[.int .i64 0, .pointer (some ⟨g, 0, none⟩)] w fun e w' => e = .returned (.int .i64 l0) ∧ Below w.heap.size w w' := by
 have f0 : w.cell? ⟨g, 0, none⟩ = some (.int .i64 l0) := hl.cell 0
 go_enter Tryz.func46, Tryz.ntmps46
 go_wp2
 go_ret
 exact ⟨rfl, Below.refl _ w⟩
theorem c_Up1 (g : Nat) (l0 l1 l2 : Int) (w : World) (hl : Blk w g 78 #[.int .i64 l0, .int .i64 l1, .int .i64 l2]) :
  Calls Tryz.prog 46 #[.int .i64 1, .pointer (some ⟨g, 0, none⟩)] w fun e w' => e = .returned (.int .i64 l1) ∧ Below w.heap.size w w' := by
 have f0 : w.cell? ⟨g, 1, none⟩ = some (.int .i64 l1) := hl.cell 1
 go_enter Tryz.func46, Tryz.ntmps46
 go_wp2
 go_ret
 exact ⟨rfl, Below.refl _ w⟩
theorem c_Up2 (g : Nat) (l0 l1 l2 : Int) (w : World) (hl : Blk w g 78 #[.int .i64 l0, .int .i64 l1, .int .i64 l2]) :
  Calls Tryz.prog 46 #[.int .i64 2, .pointer (some ⟨g, 0, none⟩)] w fun e w' => e = .returned (.int .i64 l2) ∧ Below w.heap.size w w' := by
 have f0 : w.cell? ⟨g, 2, none⟩ = some (.int .i64 l2) := hl.cell 2
 go_enter Tryz.func46, Tryz.ntmps46
 go_wp2
 go_ret
 exact ⟨rfl, Below.refl _ w⟩
set_option maxRecDepth 20000 in
set_option maxHeartbeats 16000000 in
theorem t_Up (q0 q1 q2 q3 : Int) (w : World) (iq0 : I32 q0) (iq1 : I32 q1) (iq2 : I32 q2) (iq3 : I32 q3) :
  Calls Tryz.prog 19 #[.agg #[.int .i32 q0, .int .i32 q1, .int .i32 q2, .int .i32 q3]] w (Ups q0 q1 q2 q3 w) := by
 have hmf : ∀ (fn : Fn) (first cap : Array Value) (w : World), (Instr.makeFunc fn first cap).run Tryz.prog w = .ok (.func fn first cap) w := fun _ _ _ _ => rfl
 have Ha := hid fun w => t_by q0 q0 w iq0 iq0
 have ma := tm_bd q0 q0 iq0 iq0
 have Hb := hid fun w => t_by q1 q1 w iq1 iq1
 have mb := tm_bd q1 q1 iq1 iq1
 have Hc := hid fun w => t_by q2 q2 w iq2 iq2
 have mc := tm_bd q2 q2 iq2 iq2
 have Hd := hid fun w => t_by q3 q3 w iq3 iq3
 have md := tm_bd q3 q3 iq3 iq3
 have Hx := hid fun w => t_by q1 q3 w iq1 iq3
 have mx := tm_bd q1 q3 iq1 iq3
 have Hy := hid fun w => t_by q0 q2 w iq0 iq2
 have my := tm_bd q0 q2 iq0 iq2
 have Hz := hid fun w => t_by q2 q3 w iq2 iq3
 have mz := tm_bd q2 q3 iq2 iq3
 have Ht := hid fun w => t_by q0 q1 w iq0 iq1
 have mt := tm_bd q0 q1 iq0 iq1
 have HPost : Hid (∀ e w', e = .returned (.agg #[.int .i32 (clampP (2 * (tmP q1 q3 - tmP q0 q2))), .int .i32 (clampP (2 * (tmP q2 q3 + tmP q0 q1))), .int .i32 (clampP (tmP q0 q0 - tmP q1 q1 - tmP q2 q2 + tmP q3 q3))]) ∧ Below w.heap.size w w' → Ups q0 q1 q2 q3 w e w') := fun e w' h => h
 generalize hha : tmP q0 q0 = a at *
 clear hha
 generalize hhb : tmP q1 q1 = b at *
 clear hhb
 generalize hhc : tmP q2 q2 = c at *
 clear hhc
 generalize hhd : tmP q3 q3 = d at *
 clear hhd
 generalize hhx : tmP q1 q3 = x at *
 clear hhx
 generalize hhy : tmP q0 q2 = y at *
 clear hhy
 generalize hhz : tmP q2 q3 = z at *
 clear hhz
 generalize hht : tmP q0 q1 = t at *
 clear hht
 have w1 : IntKind.i64.wrap (a - b) = a - b := IntWalk.i64_in _ (by omega)
 have w2 : IntKind.i64.wrap (a - b - c) = a - b - c := IntWalk.i64_in _ (by omega)
 have w3 : IntKind.i64.wrap (a - b - c + d) = a - b - c + d := IntWalk.i64_in _ (by omega)
 have w4 : IntKind.i64.wrap (x - y) = x - y := IntWalk.i64_in _ (by omega)
 have w5 : IntKind.i64.wrap (2 * (x - y)) = 2 * (x - y) := IntWalk.i64_in _ (by omega)
 have w6 : IntKind.i64.wrap (z + t) = z + t := IntWalk.i64_in _ (by omega)
 have w7 : IntKind.i64.wrap (2 * (z + t)) = 2 * (z + t) := IntWalk.i64_in _ (by omega)
 have HE := hid fun (g : Nat) (w : World) (hl : Blk w g 78 #[.int .i64 (2 * (x - y)), .int .i64 (2 * (z + t)), .int .i64 (a - b - c + d)]) => t_cut_Up1 (.pointer (some ⟨g, 0, none⟩)) (2 * (x - y)) (2 * (z + t)) (a - b - c + d) w (by unfold I64; omega) (by unfold I64; omega) (by unfold I64; omega) (by
  intro i V hi w' hw
  rcases hi with ⟨rfl, rfl⟩ | ⟨rfl, rfl⟩ | ⟨rfl, rfl⟩
  ·exact c_Up0 g _ _ _ w' (hl.below hw hl.lt)
  ·exact c_Up1 g _ _ _ w' (hl.below hw hl.lt)
  ·exact c_Up2 g _ _ _ w' (hl.below hw hl.lt))
 generalize clampP (2 * (x - y)) = y0 at *
 generalize clampP (2 * (z + t)) = y1 at *
 generalize clampP (a - b - c + d) = y2 at *
 generalize cutC (2 * (x - y)) + cutC (2 * (z + t)) + cutC (a - b - c + d) = N at *
 clear ma mb mc md mx my mz mt iq0 iq1 iq2 iq3
 have hp0 : Blk ((w.alloc (.cells #[.int .i32 q0, .int .i32 q1, .int .i32 q2, .int .i32 q3] 23)).alloc (.cells #[.int .i32 0, .int .i32 0, .int .i32 0] 25)) w.heap.size 23 #[.int .i32 q0, .int .i32 q1, .int .i32 q2, .int .i32 q3] := (Blk.new w _ _).alloc _
 have hr : Blk ((w.alloc (.cells #[.int .i32 q0, .int .i32 q1, .int .i32 q2, .int .i32 q3] 23)).alloc (.cells #[.int .i32 0, .int .i32 0, .int .i32 0] 25)) (w.heap.size + 1) 25 #[.int .i32 0, .int .i32 0, .int .i32 0] := by have := Blk.new (w.alloc (.cells #[.int .i32 q0, .int .i32 q1, .int .i32 q2, .int .i32 q3] 23)) 25 #[.int .i32 0, .int .i32 0, .int .i32 0]; simpa using this
 have hb : Below w.heap.size w ((w.alloc (.cells #[.int .i32 q0, .int .i32 q1, .int .i32 q2, .int .i32 q3] 23)).alloc (.cells #[.int .i32 0, .int .i32 0, .int .i32 0] 25)) := ((Below.refl _ w).alloc (Nat.le_refl _) _).alloc (by simp) _
 go_enter Tryz.func19, Tryz.ntmps19
 go_upto_region 1 with fail
 generalize (w.alloc (.cells #[.int .i32 q0, .int .i32 q1, .int .i32 q2, .int .i32 q3] 23)).alloc (.cells #[.int .i32 0, .int .i32 0, .int .i32 0] 25) = W0 at *
 refine wp_region_noPanic ?_
 refine wp_region_held_drew (S := (fun w' : World => w'.cell? ⟨w.heap.size, 0, none⟩ = some (.int .i32 q0) ∧ w'.cell? ⟨w.heap.size, 1, none⟩ = some (.int .i32 q1) ∧ w'.cell? ⟨w.heap.size, 2, none⟩ = some (.int .i32 q2) ∧ w'.cell? ⟨w.heap.size, 3, none⟩ = some (.int .i32 q3) ∧ w'.cell? ⟨w.heap.size + 1, 0, none⟩ = some (.int .i32 0) ∧ w'.cell? ⟨w.heap.size + 1, 1, none⟩ = some (.int .i32 0) ∧ w'.cell? ⟨w.heap.size + 1, 2, none⟩ = some (.int .i32 0))) (by kernel_rfl) ⟨hp0.cell 0, hp0.cell 1, hp0.cell 2, hp0.cell 3, hr.cell 0, hr.cell 1, hr.cell 2⟩ (fun hH => ?_)
 refine (show wpAnyH _ _ _ _ _ 24 _ _ _ from ?_)
 try (simp only [Act.put, List.setIfInBounds_toArray, List.set_cons_zero, List.set_cons_succ])
 replace hp0 := hp0.drew
 replace hr := hr.drew
 replace hb := hb.drew
 generalize W0.drew = W1 at *
 refine tk 0 hH ?_
 refine tk 1 hH ?_
 refine tk 2 hH ?_
 refine tk 3 hH ?_
 refine tk 5 hH ?_
 refine tk 6 hH ?_
 refine tk 7 hH ?_
 refine tk 8 hH ?_
 refine tk 11 hH ?_
 refine tk 12 hH ?_
 refine tk 13 hH ?_
 refine tk 14 hH ?_
 refine tk 17 hH ?_
 refine tk 18 hH ?_
 refine tk 19 hH ?_
 refine tk 20 hH ?_
 refine rd1 4 (fun K hK => ?_)
 go_simp
 refine (Ha.out _).mono ?_
 rintro e v3 ⟨rfl, bb⟩
 go_wp2_with fail
 replace hp0 := hp0.below bb hp0.lt
 replace hr := hr.below bb hr.lt
 replace hb := hb.on bb
 clear bb
 refine hK.out _ _ ⟨hp0.cell 0, hp0.cell 1, hp0.cell 2, hp0.cell 3, hr.cell 0, hr.cell 1, hr.cell 2⟩ (fun hH => ?_)
 clear hK K
 try (simp only [Act.put, List.setIfInBounds_toArray, List.set_cons_zero, List.set_cons_succ])
 refine rd1 9 (fun K hK => ?_)
 go_simp
 refine (Hb.out _).mono ?_
 rintro e v5 ⟨rfl, bb⟩
 go_wp2_with fail
 replace hp0 := hp0.below bb hp0.lt
 replace hr := hr.below bb hr.lt
 replace hb := hb.on bb
 clear bb
 refine hK.out _ _ ⟨hp0.cell 0, hp0.cell 1, hp0.cell 2, hp0.cell 3, hr.cell 0, hr.cell 1, hr.cell 2⟩ (fun hH => ?_)
 clear hK K
 try (simp only [Act.put, List.setIfInBounds_toArray, List.set_cons_zero, List.set_cons_succ])
 refine tk 10 hH ?_
 refine rd1 15 (fun K hK => ?_)
 go_simp
 refine (Hc.out _).mono ?_
 rintro e v7 ⟨rfl, bb⟩
 go_wp2_with fail
 replace hp0 := hp0.below bb hp0.lt
 replace hr := hr.below bb hr.lt
 replace hb := hb.on bb
 clear bb
 refine hK.out _ _ ⟨hp0.cell 0, hp0.cell 1, hp0.cell 2, hp0.cell 3, hr.cell 0, hr.cell 1, hr.cell 2⟩ (fun hH => ?_)
 clear hK K
 try (simp only [Act.put, List.setIfInBounds_toArray, List.set_cons_zero, List.set_cons_succ])
 refine tk 16 hH ?_
 refine rd1 21 (fun K hK => ?_)
 go_simp
 refine (Hd.out _).mono ?_
 rintro e v9 ⟨rfl, bb⟩
 go_wp2_with fail
 replace hp0 := hp0.below bb hp0.lt
 replace hr := hr.below bb hr.lt
 replace hb := hb.on bb
 clear bb
 refine hK.out _ _ ⟨hp0.cell 0, hp0.cell 1, hp0.cell 2, hp0.cell 3, hr.cell 0, hr.cell 1, hr.cell 2⟩ (fun hH => ?_)
 clear hK K
 try (simp only [Act.put, List.setIfInBounds_toArray, List.set_cons_zero, List.set_cons_succ])
 refine tk 22 hH ?_
 refine tk 23 hH ?_
 refine wpAnyH_done ?hru10 ?hqu10 _
 case hru10 => kernel_rfl
 refine NoPanic.normal ?_
 try go_wp2_with fail
 go_upto_region 2 with fail
 go_cut [4] from 7 to 55 (fun pp wx => ∃ g : Nat, pp = .pointer (some ⟨g, 0, none⟩) ∧ Blk wx g 78 #[.int .i64 (2 * (x - y)), .int .i64 (2 * (z + t)), .int .i64 (a - b - c + d)] ∧ Blk wx (w.heap.size + 1) 25 #[.int .i32 0, .int .i32 0, .int .i32 0] ∧ Below w.heap.size w wx)
 case first =>
  refine wp_region_noPanic ?_
  refine wp_region_held_drew (S := (fun w' : World => w'.cell? ⟨w.heap.size, 0, none⟩ = some (.int .i32 q0) ∧ w'.cell? ⟨w.heap.size, 1, none⟩ = some (.int .i32 q1) ∧ w'.cell? ⟨w.heap.size, 2, none⟩ = some (.int .i32 q2) ∧ w'.cell? ⟨w.heap.size, 3, none⟩ = some (.int .i32 q3) ∧ w'.cell? ⟨w.heap.size + 1, 0, none⟩ = some (.int .i32 0) ∧ w'.cell? ⟨w.heap.size + 1, 1, none⟩ = some (.int .i32 0) ∧ w'.cell? ⟨w.heap.size + 1, 2, none⟩ = some (.int .i32 0))) (by kernel_rfl) ⟨hp0.cell 0, hp0.cell 1, hp0.cell 2, hp0.cell 3, hr.cell 0, hr.cell 1, hr.cell 2⟩ (fun hH => ?_)
  refine (show wpAnyH _ _ _ _ _ 28 _ _ _ from ?_)
  try (simp only [Act.put, List.setIfInBounds_toArray, List.set_cons_zero, List.set_cons_succ])
  replace hp0 := hp0.drew
  replace hr := hr.drew
  replace hb := hb.drew
  generalize v9.drew = W11 at *
  refine tk 0 hH ?_
  refine tk 1 hH ?_
  refine tk 2 hH ?_
  refine tk 3 hH ?_
  refine tk 5 hH ?_
  refine tk 6 hH ?_
  refine tk 7 hH ?_
  refine tk 8 hH ?_
  refine tk 12 hH ?_
  refine tk 13 hH ?_
  refine tk 14 hH ?_
  refine tk 15 hH ?_
  refine tk 17 hH ?_
  refine tk 18 hH ?_
  refine tk 19 hH ?_
  refine tk 20 hH ?_
  refine tk 24 hH ?_
  refine rd2 4 26 (fun K hK => ?hc12q4) (fun K hK => ?hc12q26)
  case hc12q4 =>
   go_simp
   refine (Hx.out _).mono ?_
   rintro e v13 ⟨rfl, bb⟩
   go_wp2_with fail
   replace hp0 := hp0.below bb hp0.lt
   replace hr := hr.below bb hr.lt
   replace hb := hb.on bb
   clear bb
   refine hK.out _ _ ⟨hp0.cell 0, hp0.cell 1, hp0.cell 2, hp0.cell 3, hr.cell 0, hr.cell 1, hr.cell 2⟩ (fun hH => ?_)
   clear hK K
   try (simp only [Act.put, List.setIfInBounds_toArray, List.set_cons_zero, List.set_cons_succ])
   refine rd2 9 26 (fun K hK => ?hc14q9) (fun K hK => ?hc14q26)
   case hc14q9 =>
    go_simp
    refine (Hy.out _).mono ?_
    rintro e v15 ⟨rfl, bb⟩
    go_wp2_with fail
    replace hp0 := hp0.below bb hp0.lt
    replace hr := hr.below bb hr.lt
    replace hb := hb.on bb
    clear bb
    refine hK.out _ _ ⟨hp0.cell 0, hp0.cell 1, hp0.cell 2, hp0.cell 3, hr.cell 0, hr.cell 1, hr.cell 2⟩ (fun hH => ?_)
    clear hK K
    try (simp only [Act.put, List.setIfInBounds_toArray, List.set_cons_zero, List.set_cons_succ])
    refine tk 10 hH ?_
    refine tk 11 hH ?_
    refine rd2 16 26 (fun K hK => ?hc16q16) (fun K hK => ?hc16q26)
    case hc16q16 =>
     go_simp
     refine (Hz.out _).mono ?_
     rintro e v17 ⟨rfl, bb⟩
     go_wp2_with fail
     replace hp0 := hp0.below bb hp0.lt
     replace hr := hr.below bb hr.lt
     replace hb := hb.on bb
     clear bb
     refine hK.out _ _ ⟨hp0.cell 0, hp0.cell 1, hp0.cell 2, hp0.cell 3, hr.cell 0, hr.cell 1, hr.cell 2⟩ (fun hH => ?_)
     clear hK K
     try (simp only [Act.put, List.setIfInBounds_toArray, List.set_cons_zero, List.set_cons_succ])
     refine rd2 21 26 (fun K hK => ?hc18q21) (fun K hK => ?hc18q26)
     case hc18q21 =>
      go_simp
      refine (Ht.out _).mono ?_
      rintro e v19 ⟨rfl, bb⟩
      go_wp2_with fail
      replace hp0 := hp0.below bb hp0.lt
      replace hr := hr.below bb hr.lt
      replace hb := hb.on bb
      clear bb
      refine hK.out _ _ ⟨hp0.cell 0, hp0.cell 1, hp0.cell 2, hp0.cell 3, hr.cell 0, hr.cell 1, hr.cell 2⟩ (fun hH => ?_)
      clear hK K
      try (simp only [Act.put, List.setIfInBounds_toArray, List.set_cons_zero, List.set_cons_succ])
      refine tk 22 hH ?_
      refine tk 23 hH ?_
      refine tk 25 hH ?_
      refine rd1 26 (fun K hK => ?_)
      go_simp
      try go_wp2_with fail
      have lb21 := hb.size
      have l21hp0 := hp0.lt
      have l21hr := hr.lt
      replace hp0 := hp0.alloc (.cells #[.int .i64 0, .int .i64 0, .int .i64 0] 78)
      replace hr := hr.alloc (.cells #[.int .i64 0, .int .i64 0, .int .i64 0] 78)
      have n21 := Blk.new v19 78 #[.int .i64 0, .int .i64 0, .int .i64 0]
      replace hb := hb.alloc hb.size (.cells #[.int .i64 0, .int .i64 0, .int .i64 0] 78)
      generalize v19.alloc (.cells #[.int .i64 0, .int .i64 0, .int .i64 0] 78) = v21 at *
      generalize v19.heap.size = g21 at *
      refine hK.out _ _ ⟨hp0.cell 0, hp0.cell 1, hp0.cell 2, hp0.cell 3, hr.cell 0, hr.cell 1, hr.cell 2⟩ (fun hH => ?_)
      clear hK K
      try (simp only [Act.put, List.setIfInBounds_toArray, List.set_cons_zero, List.set_cons_succ])
      refine rd1 27 (fun K hK => ?_)
      have c0 : v21.cell? ⟨g21, 0, none⟩ = some (.int .i64 0) := n21.cell 0
      have z0 := n21.frozen 0
      have c1 : v21.cell? ⟨g21, 1, none⟩ = some (.int .i64 0) := n21.cell 1
      have z1 := n21.frozen 1
      have c2 : v21.cell? ⟨g21, 2, none⟩ = some (.int .i64 0) := n21.cell 2
      have z2 := n21.frozen 2
      go_simp
      try go_wp2_with fail
      replace hp0 := (((hp0.fr g21 0 (by omega) (.int .i64 (2 * (x - y)))).fr g21 1 (by omega) (.int .i64 (2 * (z + t)))).fr g21 2 (by omega) (.int .i64 (a - b - c + d)))
      replace hr := (((hr.fr g21 0 (by omega) (.int .i64 (2 * (x - y)))).fr g21 1 (by omega) (.int .i64 (2 * (z + t)))).fr g21 2 (by omega) (.int .i64 (a - b - c + d)))
      replace n21 := (((n21.set_ 0 (.int .i64 (2 * (x - y)))).set_ 1 (.int .i64 (2 * (z + t)))).set_ 2 (.int .i64 (a - b - c + d)))
      replace hb := (((hb.sc g21 0 (by omega) (.int .i64 (2 * (x - y)))).sc g21 1 (by omega) (.int .i64 (2 * (z + t)))).sc g21 2 (by omega) (.int .i64 (a - b - c + d)))
      clear c0 z0 c1 z1 c2 z2
      generalize (((v21.setCell ⟨g21, 0, none⟩ (.int .i64 (2 * (x - y)))).setCell ⟨g21, 1, none⟩ (.int .i64 (2 * (z + t)))).setCell ⟨g21, 2, none⟩ (.int .i64 (a - b - c + d))) = v23 at *
      refine hK.out _ _ ⟨hp0.cell 0, hp0.cell 1, hp0.cell 2, hp0.cell 3, hr.cell 0, hr.cell 1, hr.cell 2⟩ (fun hH => ?_)
      clear hK K
      try (simp only [Act.put, List.setIfInBounds_toArray, List.set_cons_zero, List.set_cons_succ])
      refine wpAnyH_done ?hru24 ?hqu24 _
      case hru24 => kernel_rfl
      refine NoPanic.normal ?_
      try go_wp2_with fail
      go_meet
      exact ⟨g21, rfl, n21, hr, hb⟩
     case hc18q26 =>
      go_simp
      try go_wp2_with fail
      have lb25 := hb.size
      have l25hp0 := hp0.lt
      have l25hr := hr.lt
      replace hp0 := hp0.alloc (.cells #[.int .i64 0, .int .i64 0, .int .i64 0] 78)
      replace hr := hr.alloc (.cells #[.int .i64 0, .int .i64 0, .int .i64 0] 78)
      have n25 := Blk.new v17 78 #[.int .i64 0, .int .i64 0, .int .i64 0]
      replace hb := hb.alloc hb.size (.cells #[.int .i64 0, .int .i64 0, .int .i64 0] 78)
      generalize v17.alloc (.cells #[.int .i64 0, .int .i64 0, .int .i64 0] 78) = v25 at *
      generalize v17.heap.size = g25 at *
      refine hK.out _ _ ⟨hp0.cell 0, hp0.cell 1, hp0.cell 2, hp0.cell 3, hr.cell 0, hr.cell 1, hr.cell 2⟩ (fun hH => ?_)
      clear hK K
      try (simp only [Act.put, List.setIfInBounds_toArray, List.set_cons_zero, List.set_cons_succ])
      refine rd1 21 (fun K hK => ?_)
      go_simp
      refine (Ht.out _).mono ?_
      rintro e v27 ⟨rfl, bb⟩
      go_wp2_with fail
      replace hp0 := hp0.below bb hp0.lt
      replace hr := hr.below bb hr.lt
      replace n25 := n25.below bb n25.lt
      replace hb := hb.on bb
      clear bb
      refine hK.out _ _ ⟨hp0.cell 0, hp0.cell 1, hp0.cell 2, hp0.cell 3, hr.cell 0, hr.cell 1, hr.cell 2⟩ (fun hH => ?_)
      clear hK K
      try (simp only [Act.put, List.setIfInBounds_toArray, List.set_cons_zero, List.set_cons_succ])
      refine tk 22 hH ?_
      refine tk 23 hH ?_
      refine tk 25 hH ?_
      refine rd1 27 (fun K hK => ?_)
      have c0 : v27.cell? ⟨g25, 0, none⟩ = some (.int .i64 0) := n25.cell 0
      have z0 := n25.frozen 0
      have c1 : v27.cell? ⟨g25, 1, none⟩ = some (.int .i64 0) := n25.cell 1
      have z1 := n25.frozen 1
      have c2 : v27.cell? ⟨g25, 2, none⟩ = some (.int .i64 0) := n25.cell 2
      have z2 := n25.frozen 2
      go_simp
      try go_wp2_with fail
      replace hp0 := (((hp0.fr g25 0 (by omega) (.int .i64 (2 * (x - y)))).fr g25 1 (by omega) (.int .i64 (2 * (z + t)))).fr g25 2 (by omega) (.int .i64 (a - b - c + d)))
      replace hr := (((hr.fr g25 0 (by omega) (.int .i64 (2 * (x - y)))).fr g25 1 (by omega) (.int .i64 (2 * (z + t)))).fr g25 2 (by omega) (.int .i64 (a - b - c + d)))
      replace n25 := (((n25.set_ 0 (.int .i64 (2 * (x - y)))).set_ 1 (.int .i64 (2 * (z + t)))).set_ 2 (.int .i64 (a - b - c + d)))
      replace hb := (((hb.sc g25 0 (by omega) (.int .i64 (2 * (x - y)))).sc g25 1 (by omega) (.int .i64 (2 * (z + t)))).sc g25 2 (by omega) (.int .i64 (a - b - c + d)))
      clear c0 z0 c1 z1 c2 z2
      generalize (((v27.setCell ⟨g25, 0, none⟩ (.int .i64 (2 * (x - y)))).setCell ⟨g25, 1, none⟩ (.int .i64 (2 * (z + t)))).setCell ⟨g25, 2, none⟩ (.int .i64 (a - b - c + d))) = v29 at *
      refine hK.out _ _ ⟨hp0.cell 0, hp0.cell 1, hp0.cell 2, hp0.cell 3, hr.cell 0, hr.cell 1, hr.cell 2⟩ (fun hH => ?_)
      clear hK K
      try (simp only [Act.put, List.setIfInBounds_toArray, List.set_cons_zero, List.set_cons_succ])
      refine wpAnyH_done ?hru30 ?hqu30 _
      case hru30 => kernel_rfl
      refine NoPanic.normal ?_
      try go_wp2_with fail
      go_meet
      exact ⟨g25, rfl, n25, hr, hb⟩
    case hc16q26 =>
     go_simp
     try go_wp2_with fail
     have lb31 := hb.size
     have l31hp0 := hp0.lt
     have l31hr := hr.lt
     replace hp0 := hp0.alloc (.cells #[.int .i64 0, .int .i64 0, .int .i64 0] 78)
     replace hr := hr.alloc (.cells #[.int .i64 0, .int .i64 0, .int .i64 0] 78)
     have n31 := Blk.new v15 78 #[.int .i64 0, .int .i64 0, .int .i64 0]
     replace hb := hb.alloc hb.size (.cells #[.int .i64 0, .int .i64 0, .int .i64 0] 78)
     generalize v15.alloc (.cells #[.int .i64 0, .int .i64 0, .int .i64 0] 78) = v31 at *
     generalize v15.heap.size = g31 at *
     refine hK.out _ _ ⟨hp0.cell 0, hp0.cell 1, hp0.cell 2, hp0.cell 3, hr.cell 0, hr.cell 1, hr.cell 2⟩ (fun hH => ?_)
     clear hK K
     try (simp only [Act.put, List.setIfInBounds_toArray, List.set_cons_zero, List.set_cons_succ])
     refine rd1 16 (fun K hK => ?_)
     go_simp
     refine (Hz.out _).mono ?_
     rintro e v33 ⟨rfl, bb⟩
     go_wp2_with fail
     replace hp0 := hp0.below bb hp0.lt
     replace hr := hr.below bb hr.lt
     replace n31 := n31.below bb n31.lt
     replace hb := hb.on bb
     clear bb
     refine hK.out _ _ ⟨hp0.cell 0, hp0.cell 1, hp0.cell 2, hp0.cell 3, hr.cell 0, hr.cell 1, hr.cell 2⟩ (fun hH => ?_)
     clear hK K
     try (simp only [Act.put, List.setIfInBounds_toArray, List.set_cons_zero, List.set_cons_succ])
     refine rd1 21 (fun K hK => ?_)
     go_simp
     refine (Ht.out _).mono ?_
     rintro e v35 ⟨rfl, bb⟩
     go_wp2_with fail
     replace hp0 := hp0.below bb hp0.lt
     replace hr := hr.below bb hr.lt
     replace n31 := n31.below bb n31.lt
     replace hb := hb.on bb
     clear bb
     refine hK.out _ _ ⟨hp0.cell 0, hp0.cell 1, hp0.cell 2, hp0.cell 3, hr.cell 0, hr.cell 1, hr.cell 2⟩ (fun hH => ?_)
     clear hK K
     try (simp only [Act.put, List.setIfInBounds_toArray, List.set_cons_zero, List.set_cons_succ])
     refine tk 22 hH ?_
     refine tk 23 hH ?_
     refine tk 25 hH ?_
     refine rd1 27 (fun K hK => ?_)
     have c0 : v35.cell? ⟨g31, 0, none⟩ = some (.int .i64 0) := n31.cell 0
     have z0 := n31.frozen 0
     have c1 : v35.cell? ⟨g31, 1, none⟩ = some (.int .i64 0) := n31.cell 1
     have z1 := n31.frozen 1
     have c2 : v35.cell? ⟨g31, 2, none⟩ = some (.int .i64 0) := n31.cell 2
     have z2 := n31.frozen 2
     go_simp
     try go_wp2_with fail
     replace hp0 := (((hp0.fr g31 0 (by omega) (.int .i64 (2 * (x - y)))).fr g31 1 (by omega) (.int .i64 (2 * (z + t)))).fr g31 2 (by omega) (.int .i64 (a - b - c + d)))
     replace hr := (((hr.fr g31 0 (by omega) (.int .i64 (2 * (x - y)))).fr g31 1 (by omega) (.int .i64 (2 * (z + t)))).fr g31 2 (by omega) (.int .i64 (a - b - c + d)))
     replace n31 := (((n31.set_ 0 (.int .i64 (2 * (x - y)))).set_ 1 (.int .i64 (2 * (z + t)))).set_ 2 (.int .i64 (a - b - c + d)))
     replace hb := (((hb.sc g31 0 (by omega) (.int .i64 (2 * (x - y)))).sc g31 1 (by omega) (.int .i64 (2 * (z + t)))).sc g31 2 (by omega) (.int .i64 (a - b - c + d)))
     clear c0 z0 c1 z1 c2 z2
     generalize (((v35.setCell ⟨g31, 0, none⟩ (.int .i64 (2 * (x - y)))).setCell ⟨g31, 1, none⟩ (.int .i64 (2 * (z + t)))).setCell ⟨g31, 2, none⟩ (.int .i64 (a - b - c + d))) = v37 at *
     refine hK.out _ _ ⟨hp0.cell 0, hp0.cell 1, hp0.cell 2, hp0.cell 3, hr.cell 0, hr.cell 1, hr.cell 2⟩ (fun hH => ?_)
     clear hK K
     try (simp only [Act.put, List.setIfInBounds_toArray, List.set_cons_zero, List.set_cons_succ])
     refine wpAnyH_done ?hru38 ?hqu38 _
     case hru38 => kernel_rfl
     refine NoPanic.normal ?_
     try go_wp2_with fail
     go_meet
     exact ⟨g31, rfl, n31, hr, hb⟩
   case hc14q26 =>
    go_simp
    try go_wp2_with fail
    have lb39 := hb.size
    have l39hp0 := hp0.lt
    have l39hr := hr.lt
    replace hp0 := hp0.alloc (.cells #[.int .i64 0, .int .i64 0, .int .i64 0] 78)
    replace hr := hr.alloc (.cells #[.int .i64 0, .int .i64 0, .int .i64 0] 78)
    have n39 := Blk.new v13 78 #[.int .i64 0, .int .i64 0, .int .i64 0]
    replace hb := hb.alloc hb.size (.cells #[.int .i64 0, .int .i64 0, .int .i64 0] 78)
    generalize v13.alloc (.cells #[.int .i64 0, .int .i64 0, .int .i64 0] 78) = v39 at *
    generalize v13.heap.size = g39 at *
    refine hK.out _ _ ⟨hp0.cell 0, hp0.cell 1, hp0.cell 2, hp0.cell 3, hr.cell 0, hr.cell 1, hr.cell 2⟩ (fun hH => ?_)
    clear hK K
    try (simp only [Act.put, List.setIfInBounds_toArray, List.set_cons_zero, List.set_cons_succ])
    refine rd1 9 (fun K hK => ?_)
    go_simp
    refine (Hy.out _).mono ?_
    rintro e v41 ⟨rfl, bb⟩
    go_wp2_with fail
    replace hp0 := hp0.below bb hp0.lt
    replace hr := hr.below bb hr.lt
    replace n39 := n39.below bb n39.lt
    replace hb := hb.on bb
    clear bb
    refine hK.out _ _ ⟨hp0.cell 0, hp0.cell 1, hp0.cell 2, hp0.cell 3, hr.cell 0, hr.cell 1, hr.cell 2⟩ (fun hH => ?_)
    clear hK K
    try (simp only [Act.put, List.setIfInBounds_toArray, List.set_cons_zero, List.set_cons_succ])
    refine tk 10 hH ?_
    refine tk 11 hH ?_
    refine rd1 16 (fun K hK => ?_)
    go_simp
    refine (Hz.out _).mono ?_
    rintro e v43 ⟨rfl, bb⟩
    go_wp2_with fail
    replace hp0 := hp0.below bb hp0.lt
    replace hr := hr.below bb hr.lt
    replace n39 := n39.below bb n39.lt
    replace hb := hb.on bb
    clear bb
    refine hK.out _ _ ⟨hp0.cell 0, hp0.cell 1, hp0.cell 2, hp0.cell 3, hr.cell 0, hr.cell 1, hr.cell 2⟩ (fun hH => ?_)
    clear hK K
    try (simp only [Act.put, List.setIfInBounds_toArray, List.set_cons_zero, List.set_cons_succ])
    refine rd1 21 (fun K hK => ?_)
    go_simp
    refine (Ht.out _).mono ?_
    rintro e v45 ⟨rfl, bb⟩
    go_wp2_with fail
    replace hp0 := hp0.below bb hp0.lt
    replace hr := hr.below bb hr.lt
    replace n39 := n39.below bb n39.lt
    replace hb := hb.on bb
    clear bb
    refine hK.out _ _ ⟨hp0.cell 0, hp0.cell 1, hp0.cell 2, hp0.cell 3, hr.cell 0, hr.cell 1, hr.cell 2⟩ (fun hH => ?_)
    clear hK K
    try (simp only [Act.put, List.setIfInBounds_toArray, List.set_cons_zero, List.set_cons_succ])
    refine tk 22 hH ?_
    refine tk 23 hH ?_
    refine tk 25 hH ?_
    refine rd1 27 (fun K hK => ?_)
    have c0 : v45.cell? ⟨g39, 0, none⟩ = some (.int .i64 0) := n39.cell 0
    have z0 := n39.frozen 0
    have c1 : v45.cell? ⟨g39, 1, none⟩ = some (.int .i64 0) := n39.cell 1
    have z1 := n39.frozen 1
    have c2 : v45.cell? ⟨g39, 2, none⟩ = some (.int .i64 0) := n39.cell 2
    have z2 := n39.frozen 2
    go_simp
    try go_wp2_with fail
    replace hp0 := (((hp0.fr g39 0 (by omega) (.int .i64 (2 * (x - y)))).fr g39 1 (by omega) (.int .i64 (2 * (z + t)))).fr g39 2 (by omega) (.int .i64 (a - b - c + d)))
    replace hr := (((hr.fr g39 0 (by omega) (.int .i64 (2 * (x - y)))).fr g39 1 (by omega) (.int .i64 (2 * (z + t)))).fr g39 2 (by omega) (.int .i64 (a - b - c + d)))
    replace n39 := (((n39.set_ 0 (.int .i64 (2 * (x - y)))).set_ 1 (.int .i64 (2 * (z + t)))).set_ 2 (.int .i64 (a - b - c + d)))
    replace hb := (((hb.sc g39 0 (by omega) (.int .i64 (2 * (x - y)))).sc g39 1 (by omega) (.int .i64 (2 * (z + t)))).sc g39 2 (by omega) (.int .i64 (a - b - c + d)))
    clear c0 z0 c1 z1 c2 z2
    generalize (((v45.setCell ⟨g39, 0, none⟩ (.int .i64 (2 * (x - y)))).setCell ⟨g39, 1, none⟩ (.int .i64 (2 * (z + t)))).setCell ⟨g39, 2, none⟩ (.int .i64 (a - b - c + d))) = v47 at *
    refine hK.out _ _ ⟨hp0.cell 0, hp0.cell 1, hp0.cell 2, hp0.cell 3, hr.cell 0, hr.cell 1, hr.cell 2⟩ (fun hH => ?_)
    clear hK K
    try (simp only [Act.put, List.setIfInBounds_toArray, List.set_cons_zero, List.set_cons_succ])
    refine wpAnyH_done ?hru48 ?hqu48 _
    case hru48 => kernel_rfl
    refine NoPanic.normal ?_
    try go_wp2_with fail
    go_meet
    exact ⟨g39, rfl, n39, hr, hb⟩
  case hc12q26 =>
   go_simp
   try go_wp2_with fail
   have lb49 := hb.size
   have l49hp0 := hp0.lt
   have l49hr := hr.lt
   replace hp0 := hp0.alloc (.cells #[.int .i64 0, .int .i64 0, .int .i64 0] 78)
   replace hr := hr.alloc (.cells #[.int .i64 0, .int .i64 0, .int .i64 0] 78)
   have n49 := Blk.new W11 78 #[.int .i64 0, .int .i64 0, .int .i64 0]
   replace hb := hb.alloc hb.size (.cells #[.int .i64 0, .int .i64 0, .int .i64 0] 78)
   generalize W11.alloc (.cells #[.int .i64 0, .int .i64 0, .int .i64 0] 78) = v49 at *
   generalize W11.heap.size = g49 at *
   refine hK.out _ _ ⟨hp0.cell 0, hp0.cell 1, hp0.cell 2, hp0.cell 3, hr.cell 0, hr.cell 1, hr.cell 2⟩ (fun hH => ?_)
   clear hK K
   try (simp only [Act.put, List.setIfInBounds_toArray, List.set_cons_zero, List.set_cons_succ])
   refine rd1 4 (fun K hK => ?_)
   go_simp
   refine (Hx.out _).mono ?_
   rintro e v51 ⟨rfl, bb⟩
   go_wp2_with fail
   replace hp0 := hp0.below bb hp0.lt
   replace hr := hr.below bb hr.lt
   replace n49 := n49.below bb n49.lt
   replace hb := hb.on bb
   clear bb
   refine hK.out _ _ ⟨hp0.cell 0, hp0.cell 1, hp0.cell 2, hp0.cell 3, hr.cell 0, hr.cell 1, hr.cell 2⟩ (fun hH => ?_)
   clear hK K
   try (simp only [Act.put, List.setIfInBounds_toArray, List.set_cons_zero, List.set_cons_succ])
   refine rd1 9 (fun K hK => ?_)
   go_simp
   refine (Hy.out _).mono ?_
   rintro e v53 ⟨rfl, bb⟩
   go_wp2_with fail
   replace hp0 := hp0.below bb hp0.lt
   replace hr := hr.below bb hr.lt
   replace n49 := n49.below bb n49.lt
   replace hb := hb.on bb
   clear bb
   refine hK.out _ _ ⟨hp0.cell 0, hp0.cell 1, hp0.cell 2, hp0.cell 3, hr.cell 0, hr.cell 1, hr.cell 2⟩ (fun hH => ?_)
   clear hK K
   try (simp only [Act.put, List.setIfInBounds_toArray, List.set_cons_zero, List.set_cons_succ])
   refine tk 10 hH ?_
   refine tk 11 hH ?_
   refine rd1 16 (fun K hK => ?_)
   go_simp
   refine (Hz.out _).mono ?_
   rintro e v55 ⟨rfl, bb⟩
   go_wp2_with fail
   replace hp0 := hp0.below bb hp0.lt
   replace hr := hr.below bb hr.lt
   replace n49 := n49.below bb n49.lt
   replace hb := hb.on bb
   clear bb
   refine hK.out _ _ ⟨hp0.cell 0, hp0.cell 1, hp0.cell 2, hp0.cell 3, hr.cell 0, hr.cell 1, hr.cell 2⟩ (fun hH => ?_)
   clear hK K
   try (simp only [Act.put, List.setIfInBounds_toArray, List.set_cons_zero, List.set_cons_succ])
   refine rd1 21 (fun K hK => ?_)
   go_simp
   refine (Ht.out _).mono ?_
   rintro e v57 ⟨rfl, bb⟩
   go_wp2_with fail
   replace hp0 := hp0.below bb hp0.lt
   replace hr := hr.below bb hr.lt
   replace n49 := n49.below bb n49.lt
   replace hb := hb.on bb
   clear bb
   refine hK.out _ _ ⟨hp0.cell 0, hp0.cell 1, hp0.cell 2, hp0.cell 3, hr.cell 0, hr.cell 1, hr.cell 2⟩ (fun hH => ?_)
   clear hK K
   try (simp only [Act.put, List.setIfInBounds_toArray, List.set_cons_zero, List.set_cons_succ])
   refine tk 22 hH ?_
   refine tk 23 hH ?_
   refine tk 25 hH ?_
   refine rd1 27 (fun K hK => ?_)
   have c0 : v57.cell? ⟨g49, 0, none⟩ = some (.int .i64 0) := n49.cell 0
   have z0 := n49.frozen 0
   have c1 : v57.cell? ⟨g49, 1, none⟩ = some (.int .i64 0) := n49.cell 1
   have z1 := n49.frozen 1
   have c2 : v57.cell? ⟨g49, 2, none⟩ = some (.int .i64 0) := n49.cell 2
   have z2 := n49.frozen 2
   go_simp
   try go_wp2_with fail
   replace hp0 := (((hp0.fr g49 0 (by omega) (.int .i64 (2 * (x - y)))).fr g49 1 (by omega) (.int .i64 (2 * (z + t)))).fr g49 2 (by omega) (.int .i64 (a - b - c + d)))
   replace hr := (((hr.fr g49 0 (by omega) (.int .i64 (2 * (x - y)))).fr g49 1 (by omega) (.int .i64 (2 * (z + t)))).fr g49 2 (by omega) (.int .i64 (a - b - c + d)))
   replace n49 := (((n49.set_ 0 (.int .i64 (2 * (x - y)))).set_ 1 (.int .i64 (2 * (z + t)))).set_ 2 (.int .i64 (a - b - c + d)))
   replace hb := (((hb.sc g49 0 (by omega) (.int .i64 (2 * (x - y)))).sc g49 1 (by omega) (.int .i64 (2 * (z + t)))).sc g49 2 (by omega) (.int .i64 (a - b - c + d)))
   clear c0 z0 c1 z1 c2 z2
   generalize (((v57.setCell ⟨g49, 0, none⟩ (.int .i64 (2 * (x - y)))).setCell ⟨g49, 1, none⟩ (.int .i64 (2 * (z + t)))).setCell ⟨g49, 2, none⟩ (.int .i64 (a - b - c + d))) = v59 at *
   refine hK.out _ _ ⟨hp0.cell 0, hp0.cell 1, hp0.cell 2, hp0.cell 3, hr.cell 0, hr.cell 1, hr.cell 2⟩ (fun hH => ?_)
   clear hK K
   try (simp only [Act.put, List.setIfInBounds_toArray, List.set_cons_zero, List.set_cons_succ])
   refine wpAnyH_done ?hru60 ?hqu60 _
   case hru60 => kernel_rfl
   refine NoPanic.normal ?_
   try go_wp2_with fail
   go_meet
   exact ⟨g49, rfl, n49, hr, hb⟩
 case rest =>
  clear hp0 hr hb
  obtain ⟨g, rfl, hl, hr, hb⟩ := hcut
  have HE2 := hid (HE.out g _ hl)
  clear HE w1 w2 w3 w4 w5 w6 w7
  go_wp2_with fail
  refine (HE2.out).mono ?_
  rintro e w4 ⟨rfl, bb4⟩
  clear HE2 hl
  replace hr := hr.below bb4 hr.lt
  replace hb := hb.on bb4
  have lr := hr.lt
  replace hr := hr.alloc (.cells #[.int .i32 y0, .int .i32 y1, .int .i32 y2] 79)
  replace hb := hb.alloc hb.size (.cells #[.int .i32 y0, .int .i32 y1, .int .i32 y2] 79)
  have hY := Blk.new w4 79 #[.int .i32 y0, .int .i32 y1, .int .i32 y2]
  go_upto_region 4 with fail
  generalize w4.alloc (.cells #[.int .i32 y0, .int .i32 y1, .int .i32 y2] 79) = W5 at *
  generalize w4.heap.size = gY at *
  have c0 : W5.cell? ⟨gY, 0, none⟩ = some (.int .i32 y0) := hY.cell 0
  have d0 : W5.cell? ⟨w.heap.size + 1, 0, none⟩ = some (.int .i32 0) := hr.cell 0
  have zz0 := hr.frozen 0
  have c1 : W5.cell? ⟨gY, 1, none⟩ = some (.int .i32 y1) := hY.cell 1
  have d1 : W5.cell? ⟨w.heap.size + 1, 1, none⟩ = some (.int .i32 0) := hr.cell 1
  have zz1 := hr.frozen 1
  have c2 : W5.cell? ⟨gY, 2, none⟩ = some (.int .i32 y2) := hY.cell 2
  have d2 : W5.cell? ⟨w.heap.size + 1, 2, none⟩ = some (.int .i32 0) := hr.cell 2
  have zz2 := hr.frozen 2
  have hf : Blk (((W5.setCell ⟨w.heap.size + 1, 0, none⟩ (.int .i32 y0)).setCell ⟨w.heap.size + 1, 1, none⟩ (.int .i32 y1)).setCell ⟨w.heap.size + 1, 2, none⟩ (.int .i32 y2)) (w.heap.size + 1) 25 #[.int .i32 y0, .int .i32 y1, .int .i32 y2] := (((hr.set_ 0 (.int .i32 y0)).set_ 1 (.int .i32 y1)).set_ 2 (.int .i32 y2))
  have hbf : Below w.heap.size w (((W5.setCell ⟨w.heap.size + 1, 0, none⟩ (.int .i32 y0)).setCell ⟨w.heap.size + 1, 1, none⟩ (.int .i32 y1)).setCell ⟨w.heap.size + 1, 2, none⟩ (.int .i32 y2)) := (((hb.sc (w.heap.size + 1) 0 (by omega) (.int .i32 y0)).sc (w.heap.size + 1) 1 (by omega) (.int .i32 y1)).sc (w.heap.size + 1) 2 (by omega) (.int .i32 y2))
  go_wp2
  generalize (((W5.setCell ⟨w.heap.size + 1, 0, none⟩ (.int .i32 y0)).setCell ⟨w.heap.size + 1, 1, none⟩ (.int .i32 y1)).setCell ⟨w.heap.size + 1, 2, none⟩ (.int .i32 y2)) = wf at *
  have f0 : wf.cell? ⟨w.heap.size + 1, 0, none⟩ = some (.int .i32 y0) := hf.cell 0
  have f1 : wf.cell? ⟨w.heap.size + 1, 1, none⟩ = some (.int .i32 y1) := hf.cell 1
  have f2 : wf.cell? ⟨w.heap.size + 1, 2, none⟩ = some (.int .i32 y2) := hf.cell 2
  simp [bodyPost, results, Tryz.results19, go_sem, f0, f1, f2]
  exact HPost.out _ _ ⟨rfl, hbf⟩
end Go.Proofs.YtgmepohfkpncmaaGreat
