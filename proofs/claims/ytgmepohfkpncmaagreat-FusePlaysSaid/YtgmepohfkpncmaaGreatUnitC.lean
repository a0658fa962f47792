/- Chapter 11: what is made of a quaternion. -/
import Derived.Test.YtgmepohfkpncmaaGreatUnitB
import Derived.Laws.StructEq
namespace Go.Proofs.YtgmepohfkpncmaaGreat
open Go.RowKit
set_option linter.unusedVariables false
set_option linter.unusedSimpArgs false

def makeP (xs : List Int) (x : Int) : Int := if farP xs = 0 then 0 else oneP xs x
def Makes (a0 a1 a2 a3 : Int) (w : World) (e : Ending) (w' : World) : Prop :=
  e = .returned (.tuple #[.agg #[.int .i32 (makeP [a0, a1, a2, a3] a0), .int .i32 (makeP [a0, a1, a2, a3] a1), .int .i32 (makeP [a0, a1, a2, a3] a2), .int .i32 (makeP [a0, a1, a2, a3] a3)], .bool (decide (0 < farP [a0, a1, a2, a3]))]) ∧ Below w.heap.size w w'
theorem far_zero (a0 a1 a2 a3 : Int) (h0 : I32 a0) (h1 : I32 a1) (h2 : I32 a2) (h3 : I32 a3) : farP [a0, a1, a2, a3] = 0 ∨ 0 < farP [a0, a1, a2, a3] := by
  have := (farP_facts [a0, a1, a2, a3] (by simp; unfold I32 at *; omega)).1
  omega
theorem far_zero' (a0 a1 a2 a3 : Int) (h0 : I32 a0) (h1 : I32 a1) (h2 : I32 a2) (h3 : I32 a3) (h : farP [a0, a1, a2, a3] = 0) : a0 = 0 ∧ a1 = 0 ∧ a2 = 0 ∧ a3 = 0 := by
  obtain ⟨_, _, f, _⟩ := farP_facts [a0, a1, a2, a3] (by simp; unfold I32 at *; omega)
  rw [h] at f
  simp at f
  omega
theorem far_pos' (a0 a1 a2 a3 : Int) (h : 0 < farP [a0, a1, a2, a3]) : ¬ (a0 = 0 ∧ a1 = 0 ∧ a2 = 0 ∧ a3 = 0) := by
  rintro ⟨rfl, rfl, rfl, rfl⟩
  simp [farP] at h
def Up4 (a0 a1 a2 a3 g0 g1 g2 g3 I l0 l1 l2 l3 : Int) : Prop :=
  (I = 0 ∧ a0 = l0 ∧ a1 = l1 ∧ a2 = l2 ∧ a3 = l3) ∨ (I = 1 ∧ g0 = l0 ∧ a1 = l1 ∧ a2 = l2 ∧ a3 = l3) ∨ (I = 2 ∧ g0 = l0 ∧ g1 = l1 ∧ a2 = l2 ∧ a3 = l3) ∨ (I = 3 ∧ g0 = l0 ∧ g1 = l1 ∧ g2 = l2 ∧ a3 = l3) ∨ (I = 4 ∧ g0 = l0 ∧ g1 = l1 ∧ g2 = l2 ∧ g3 = l3)

set_option maxHeartbeats 8000000 in
theorem u_Make (a0 a1 a2 a3 : Int) (w : World) (ia0 : I32 a0) (ia1 : I32 a1) (ia2 : I32 a2) (ia3 : I32 a3) :
    Calls Tryz.prog 91 #[.agg #[.int .i32 a0, .int .i32 a1, .int .i32 a2, .int .i32 a3]] w (Makes a0 a1 a2 a3 w) := by
  rcases far_zero a0 a1 a2 a3 ia0 ia1 ia2 ia3 with hz | hz
  · obtain ⟨rfl, rfl, rfl, rfl⟩ := far_zero' a0 a1 a2 a3 ia0 ia1 ia2 ia3 hz
    have HM : Hid (Ending.returned (.tuple #[.agg #[.int .i32 0, .int .i32 0, .int .i32 0, .int .i32 0], .bool false]) = .returned (.tuple #[.agg #[.int .i32 (makeP [0, 0, 0, 0] 0), .int .i32 (makeP [0, 0, 0, 0] 0), .int .i32 (makeP [0, 0, 0, 0] 0), .int .i32 (makeP [0, 0, 0, 0] 0)], .bool (decide (0 < farP [0, 0, 0, 0]))])) := by unfold makeP; rw [hz]; rfl
    clear hz ia0 ia1 ia2 ia3
    go_enter Tryz.func91, Tryz.ntmps91
    go_wp2
    simp [bodyPost, results, Tryz.results91, go_sem]
    exact ⟨HM.out, ((Below.refl _ w).alloc (Nat.le_refl _) _).alloc (by simp) _⟩
  · have hn := far_pos' a0 a1 a2 a3 hz
    go_enter Tryz.func91, Tryz.ntmps91
    go_upto_region 1 with fail
    have hp : Blk ((w.alloc (.cells #[.int .i32 a0, .int .i32 a1, .int .i32 a2, .int .i32 a3] 23)).alloc (.cells #[.int .i32 0, .int .i32 0, .int .i32 0, .int .i32 0] 23)) w.heap.size 23 #[.int .i32 a0, .int .i32 a1, .int .i32 a2, .int .i32 a3] := (Blk.new w _ _).alloc _
    have hr : Blk ((w.alloc (.cells #[.int .i32 a0, .int .i32 a1, .int .i32 a2, .int .i32 a3] 23)).alloc (.cells #[.int .i32 0, .int .i32 0, .int .i32 0, .int .i32 0] 23)) (w.heap.size + 1) 23 #[.int .i32 0, .int .i32 0, .int .i32 0, .int .i32 0] := by have := Blk.new (w.alloc (.cells #[.int .i32 a0, .int .i32 a1, .int .i32 a2, .int .i32 a3] 23)) 23 #[.int .i32 0, .int .i32 0, .int .i32 0, .int .i32 0]; simpa using this
    have hb : Below w.heap.size w ((w.alloc (.cells #[.int .i32 a0, .int .i32 a1, .int .i32 a2, .int .i32 a3] 23)).alloc (.cells #[.int .i32 0, .int .i32 0, .int .i32 0, .int .i32 0] 23)) := ((Below.refl _ w).alloc (Nat.le_refl _) _).alloc (by simp) _
    generalize (w.alloc (.cells #[.int .i32 a0, .int .i32 a1, .int .i32 a2, .int .i32 a3] 23)).alloc (.cells #[.int .i32 0, .int .i32 0, .int .i32 0, .int .i32 0] 23) = W0 at *
    go_cut [12] from 10 to 11 (fun x wx => x = .bool false ∧ wx = W0)
    case first =>
      have f0 : W0.cell? ⟨w.heap.size, 0, none⟩ = some (.int .i32 a0) := hp.cell 0
      have f1 : W0.cell? ⟨w.heap.size, 1, none⟩ = some (.int .i32 a1) := hp.cell 1
      have f2 : W0.cell? ⟨w.heap.size, 2, none⟩ = some (.int .i32 a2) := hp.cell 2
      have f3 : W0.cell? ⟨w.heap.size, 3, none⟩ = some (.int .i32 a3) := hp.cell 3
      go_wp2
      all_goals (try subst_vars)
      all_goals (go_meet)
      all_goals (exact ⟨rfl, rfl⟩)
    case rest =>
      obtain ⟨rfl, rfl⟩ := hcut
      clear hn
      have hs := hr.lt
      have ha := Blk.new wc 94 #[.int .i32 0, .int .i32 0, .int .i32 0, .int .i32 0]
      replace hp := hp.alloc (.cells #[.int .i32 0, .int .i32 0, .int .i32 0, .int .i32 0] 94)
      replace hr := hr.alloc (.cells #[.int .i32 0, .int .i32 0, .int .i32 0, .int .i32 0] 94)
      replace hb := hb.alloc hb.size (.cells #[.int .i32 0, .int .i32 0, .int .i32 0, .int .i32 0] 94)
      go_upto_region 4 with fail
      generalize wc.alloc (.cells #[.int .i32 0, .int .i32 0, .int .i32 0, .int .i32 0] 94) = W1 at *
      generalize wc.heap.size = gA at *
      refine wp_region_noPanic ?_
      refine wp_region_held_drew (S := (fun w' : World => w'.cell? ⟨w.heap.size, 0, none⟩ = some (.int .i32 a0) ∧ w'.cell? ⟨w.heap.size, 1, none⟩ = some (.int .i32 a1) ∧ w'.cell? ⟨w.heap.size, 2, none⟩ = some (.int .i32 a2) ∧ w'.cell? ⟨w.heap.size, 3, none⟩ = some (.int .i32 a3))) (by kernel_rfl) ⟨hp.cell 0, hp.cell 1, hp.cell 2, hp.cell 3⟩ (fun hH => ?_)
      refine (show wpAnyH _ _ _ _ _ 11 _ _ _ from ?_)
      try (simp only [Act.put, List.setIfInBounds_toArray, List.set_cons_zero, List.set_cons_succ])
      replace hp := hp.drew
      replace hr := hr.drew
      replace ha := ha.drew
      replace hb := hb.drew
      generalize W1.drew = W2 at *
      refine tk 0 hH ?_
      refine tk 1 hH ?_
      refine tk 2 hH ?_
      refine tk 3 hH ?_
      refine tk 4 hH ?_
      refine tk 5 hH ?_
      refine tk 6 hH ?_
      refine tk 7 hH ?_
      refine tk 8 hH ?_
      refine rd1 9 (fun K hK => ?_)
      go_simp
      try go_wp2_with fail
      have hsB := ha.lt
      replace hp := hp.alloc (.cells #[.int .i32 a0, .int .i32 a1, .int .i32 a2, .int .i32 a3] 21)
      replace hr := hr.alloc (.cells #[.int .i32 a0, .int .i32 a1, .int .i32 a2, .int .i32 a3] 21)
      replace ha := ha.alloc (.cells #[.int .i32 a0, .int .i32 a1, .int .i32 a2, .int .i32 a3] 21)
      have hc := Blk.new W2 21 #[.int .i32 a0, .int .i32 a1, .int .i32 a2, .int .i32 a3]
      replace hb := hb.alloc hb.size (.cells #[.int .i32 a0, .int .i32 a1, .int .i32 a2, .int .i32 a3] 21)
      generalize W2.alloc (.cells #[.int .i32 a0, .int .i32 a1, .int .i32 a2, .int .i32 a3] 21) = W3 at *
      generalize W2.heap.size = gB at *
      refine hK.out _ _ ⟨hp.cell 0, hp.cell 1, hp.cell 2, hp.cell 3⟩ (fun hH => ?_)
      clear hK K
      try (simp only [Act.put, List.setIfInBounds_toArray, List.set_cons_zero, List.set_cons_succ])
      refine rd1 10 (fun K hK => ?_)
      rw [if_pos (by kernel_rfl)]
      refine wp_copyrow (k := .i32) (.tmp 14) (.tmp 23) 72 72 rfl 21 (by kernel_rfl) (by kernel_rfl) (some ⟨gA, 0, none⟩) (some ⟨gB, 0, none⟩) 4 4 4 4 rfl rfl (gB + 1) [a0, a1, a2, a3] (Row.blk hc rfl (Nat.lt_succ_self _)) gA 0 [.int .i32 0, .int .i32 0, .int .i32 0, .int .i32 0] 94 ha (fun _ => rfl) (by simp) ?_
      intro w4 ha2 hg
      replace hp := hp.grown hg (by simp; omega)
      replace hr := hr.grown hg (by simp; omega)
      replace hb := hb.grown hg hb.size (fun k hk => by cases hk; omega)
      have ha3 : Blk w4 gA 94 #[.int .i32 a0, .int .i32 a1, .int .i32 a2, .int .i32 a3] := by simpa [splice] using ha2
      clear ha2 hg ha hc hsB
      refine hK.out _ _ ⟨hp.cell 0, hp.cell 1, hp.cell 2, hp.cell 3⟩ (fun hH => ?_)
      clear hK K
      try (simp only [Act.put, List.setIfInBounds_toArray, List.set_cons_zero, List.set_cons_succ])
      refine wpAnyH_done ?hrz ?hqz _
      case hrz => kernel_rfl
      refine NoPanic.normal ?_
      clear hH
      have HSh := hid fun w h => u_shifts (some ⟨gA, 0, none⟩) 4 4 [a0, a1, a2, a3] w h (by unfold I32 at *; simp; omega) (by omega) hz
      go_wp2_with fail
      refine (HSh.out _ (Row.blk ha3 rfl ha3.lt)).mono ?_
      rintro e w' ⟨rfl, rfl⟩
      have HN : Hid (upN [a0, a1, a2, a3] = shN (farP [a0, a1, a2, a3])) := rfl
      obtain ⟨n30, hG, hL1, hL2, hL3⟩ := up_facts [a0, a1, a2, a3] (by unfold I32 at *; simp; omega) hz
      simp only [List.mem_cons, List.not_mem_nil, or_false, forall_eq_or_imp, forall_eq] at hG hL3
      unfold upN at *
      generalize hN : shN (farP [a0, a1, a2, a3]) = N at *
      have k64 : min N 64 = N := by omega
      obtain ⟨G0, G1, G2, G3⟩ := hG
      obtain ⟨M0, M1, M2, M3⟩ := hL3
      have s0 : IntKind.i32.wrap (a0 * 2 ^ N) = a0 * 2 ^ N := IntWalk.i32_in _ (by unfold I32 at G0; omega)
      have s1 : IntKind.i32.wrap (a1 * 2 ^ N) = a1 * 2 ^ N := IntWalk.i32_in _ (by unfold I32 at G1; omega)
      have s2 : IntKind.i32.wrap (a2 * 2 ^ N) = a2 * 2 ^ N := IntWalk.i32_in _ (by unfold I32 at G2; omega)
      have s3 : IntKind.i32.wrap (a3 * 2 ^ N) = a3 * 2 ^ N := IntWalk.i32_in _ (by unfold I32 at G3; omega)
      clear k64
      go_wp2
      go_loopw [27] (fun i wr => ∃ I l0 l1 l2 l3 : Int, i = .int .i64 I ∧ Hid (Up4 a0 a1 a2 a3 (a0 * 2 ^ N) (a1 * 2 ^ N) (a2 * 2 ^ N) (a3 * 2 ^ N) I l0 l1 l2 l3) ∧ Blk wr (w.heap.size + 1) 23 #[.int .i32 0, .int .i32 0, .int .i32 0, .int .i32 0] ∧ Blk wr gA 94 #[.int .i32 l0, .int .i32 l1, .int .i32 l2, .int .i32 l3] ∧ Below w.heap.size w wr) (fun i _ => 4 - (intOf i).toNat)
      case atStart => exact ⟨0, a0, a1, a2, a3, rfl, .inl ⟨rfl, rfl, rfl, rfl, rfl⟩, hr, ha3, hb⟩
      case round =>
        clear hr ha3 hb hp
        obtain ⟨I, l0, l1, l2, l3, rfl, hcut, hr, ha, hb⟩ := hrel
        rcases hcut.out with ⟨rfl, rfl, rfl, rfl, rfl⟩ | ⟨rfl, rfl, rfl, rfl, rfl⟩ | ⟨rfl, rfl, rfl, rfl, rfl⟩ | ⟨rfl, rfl, rfl, rfl, rfl⟩ | ⟨rfl, rfl, rfl, rfl, rfl⟩
        · have c0 : wr.cell? ⟨gA, 0, none⟩ = some (.int .i32 a0) := ha.cell 0
          have z0 := ha.frozen 0
          clear hcut
          go_wp2
          go_round
          case rel => exact ⟨1, (a0 * 2 ^ N), a1, a2, a3, rfl, .inr (.inl ⟨rfl, rfl, rfl, rfl, rfl⟩), hr.fr gA 0 (by omega) _, ha.set_ 0 _, hb.sc gA 0 (by omega) _⟩
          case measure => simp [intOf]
        · have c0 : wr.cell? ⟨gA, 1, none⟩ = some (.int .i32 a1) := ha.cell 1
          have z0 := ha.frozen 1
          clear hcut
          go_wp2
          go_round
          case rel => exact ⟨2, (a0 * 2 ^ N), (a1 * 2 ^ N), a2, a3, rfl, .inr (.inr (.inl ⟨rfl, rfl, rfl, rfl, rfl⟩)), hr.fr gA 1 (by omega) _, ha.set_ 1 _, hb.sc gA 1 (by omega) _⟩
          case measure => simp [intOf]
        · have c0 : wr.cell? ⟨gA, 2, none⟩ = some (.int .i32 a2) := ha.cell 2
          have z0 := ha.frozen 2
          clear hcut
          go_wp2
          go_round
          case rel => exact ⟨3, (a0 * 2 ^ N), (a1 * 2 ^ N), (a2 * 2 ^ N), a3, rfl, .inr (.inr (.inr (.inl ⟨rfl, rfl, rfl, rfl, rfl⟩))), hr.fr gA 2 (by omega) _, ha.set_ 2 _, hb.sc gA 2 (by omega) _⟩
          case measure => simp [intOf]
        · have c0 : wr.cell? ⟨gA, 3, none⟩ = some (.int .i32 a3) := ha.cell 3
          have z0 := ha.frozen 3
          clear hcut
          go_wp2
          go_round
          case rel => exact ⟨4, (a0 * 2 ^ N), (a1 * 2 ^ N), (a2 * 2 ^ N), (a3 * 2 ^ N), rfl, .inr (.inr (.inr (.inr (⟨rfl, rfl, rfl, rfl, rfl⟩)))), hr.fr gA 3 (by omega) _, ha.set_ 3 _, hb.sc gA 3 (by omega) _⟩
          case measure => simp [intOf]
        · clear hcut
          have HL := hid fun w h => root_Length (some ⟨gA, 0, none⟩) 4 4 [a0 * 2 ^ N, a1 * 2 ^ N, a2 * 2 ^ N, a3 * 2 ^ N] w h (by unfold I32 at *; simp; omega) (by omega)
          have HE : Hid (lenP [a0, a1, a2, a3] = rootP (sqP [a0 * 2 ^ N, a1 * 2 ^ N, a2 * 2 ^ N, a3 * 2 ^ N])) := by have e : upN [a0, a1, a2, a3] = N := hN; unfold lenP upL; rw [e]; rfl
          rw [HE.out] at hL1 hL2 M0 M1 M2 M3
          generalize rootP (sqP [a0 * 2 ^ N, a1 * 2 ^ N, a2 * 2 ^ N, a3 * 2 ^ N]) = L at *
          clear s0 s1 s2 s3
          go_wp2_with fail
          refine (HL.out _ (Row.blk ha rfl ha.lt)).mono ?_
          rintro e w' ⟨rfl, rfl⟩

          have o0 := over_one (a0 * 2 ^ N) L ⟨by omega, hL2⟩ M0 G0
          have HO0 := hid fun w => fx_Over (a0 * 2 ^ N * 1073741824) L w (by unfold I32 I64 at *; omega) (by unfold I64; omega)
          have m0 : IntKind.i64.wrap (a0 * 2 ^ N * 1073741824) = a0 * 2 ^ N * 1073741824 := IntWalk.i64_in _ (by unfold I32 at G0; omega)
          have x0 : IntKind.i32.wrap (overP (a0 * 2 ^ N * 1073741824) L) = overP (a0 * 2 ^ N * 1073741824) L := IntWalk.i32_in _ (by omega)
          have X0 : ∀ w, (Instr.index 94 (.agg #[.int .i32 (a0 * 2 ^ N), .int .i32 (a1 * 2 ^ N), .int .i32 (a2 * 2 ^ N), .int .i32 (a3 * 2 ^ N)]) (.int .i64 0)).run Tryz.prog w = .ok (.int .i32 (a0 * 2 ^ N)) w := fun _ => by kernel_rfl
          have o1 := over_one (a1 * 2 ^ N) L ⟨by omega, hL2⟩ M1 G1
          have HO1 := hid fun w => fx_Over (a1 * 2 ^ N * 1073741824) L w (by unfold I32 I64 at *; omega) (by unfold I64; omega)
          have m1 : IntKind.i64.wrap (a1 * 2 ^ N * 1073741824) = a1 * 2 ^ N * 1073741824 := IntWalk.i64_in _ (by unfold I32 at G1; omega)
          have x1 : IntKind.i32.wrap (overP (a1 * 2 ^ N * 1073741824) L) = overP (a1 * 2 ^ N * 1073741824) L := IntWalk.i32_in _ (by omega)
          have X1 : ∀ w, (Instr.index 94 (.agg #[.int .i32 (a0 * 2 ^ N), .int .i32 (a1 * 2 ^ N), .int .i32 (a2 * 2 ^ N), .int .i32 (a3 * 2 ^ N)]) (.int .i64 1)).run Tryz.prog w = .ok (.int .i32 (a1 * 2 ^ N)) w := fun _ => by kernel_rfl
          have o2 := over_one (a2 * 2 ^ N) L ⟨by omega, hL2⟩ M2 G2
          have HO2 := hid fun w => fx_Over (a2 * 2 ^ N * 1073741824) L w (by unfold I32 I64 at *; omega) (by unfold I64; omega)
          have m2 : IntKind.i64.wrap (a2 * 2 ^ N * 1073741824) = a2 * 2 ^ N * 1073741824 := IntWalk.i64_in _ (by unfold I32 at G2; omega)
          have x2 : IntKind.i32.wrap (overP (a2 * 2 ^ N * 1073741824) L) = overP (a2 * 2 ^ N * 1073741824) L := IntWalk.i32_in _ (by omega)
          have X2 : ∀ w, (Instr.index 94 (.agg #[.int .i32 (a0 * 2 ^ N), .int .i32 (a1 * 2 ^ N), .int .i32 (a2 * 2 ^ N), .int .i32 (a3 * 2 ^ N)]) (.int .i64 2)).run Tryz.prog w = .ok (.int .i32 (a2 * 2 ^ N)) w := fun _ => by kernel_rfl
          have o3 := over_one (a3 * 2 ^ N) L ⟨by omega, hL2⟩ M3 G3
          have HO3 := hid fun w => fx_Over (a3 * 2 ^ N * 1073741824) L w (by unfold I32 I64 at *; omega) (by unfold I64; omega)
          have m3 : IntKind.i64.wrap (a3 * 2 ^ N * 1073741824) = a3 * 2 ^ N * 1073741824 := IntWalk.i64_in _ (by unfold I32 at G3; omega)
          have x3 : IntKind.i32.wrap (overP (a3 * 2 ^ N * 1073741824) L) = overP (a3 * 2 ^ N * 1073741824) L := IntWalk.i32_in _ (by omega)
          have X3 : ∀ w, (Instr.index 94 (.agg #[.int .i32 (a0 * 2 ^ N), .int .i32 (a1 * 2 ^ N), .int .i32 (a2 * 2 ^ N), .int .i32 (a3 * 2 ^ N)]) (.int .i64 3)).run Tryz.prog w = .ok (.int .i32 (a3 * 2 ^ N)) w := fun _ => by kernel_rfl
          have c0 : wr.cell? ⟨gA, 0, none⟩ = some (.int .i32 (a0 * 2 ^ N)) := ha.cell 0
          have c1 : wr.cell? ⟨gA, 1, none⟩ = some (.int .i32 (a1 * 2 ^ N)) := ha.cell 1
          have c2 : wr.cell? ⟨gA, 2, none⟩ = some (.int .i32 (a2 * 2 ^ N)) := ha.cell 2
          have c3 : wr.cell? ⟨gA, 3, none⟩ = some (.int .i32 (a3 * 2 ^ N)) := ha.cell 3
          go_wp2
          clear c0 c1 c2 c3
          go_loopw [41] (fun i wr => ∃ I l0 l1 l2 l3 : Int, i = .int .i64 I ∧ Hid (Up4 (a0 * 2 ^ N) (a1 * 2 ^ N) (a2 * 2 ^ N) (a3 * 2 ^ N) (overP (a0 * 2 ^ N * 1073741824) L) (overP (a1 * 2 ^ N * 1073741824) L) (overP (a2 * 2 ^ N * 1073741824) L) (overP (a3 * 2 ^ N * 1073741824) L) I l0 l1 l2 l3) ∧ Blk wr (w.heap.size + 1) 23 #[.int .i32 0, .int .i32 0, .int .i32 0, .int .i32 0] ∧ Blk wr gA 94 #[.int .i32 l0, .int .i32 l1, .int .i32 l2, .int .i32 l3] ∧ Below w.heap.size w wr) (fun i _ => 4 - (intOf i).toNat)
          case atStart => exact ⟨0, a0 * 2 ^ N, a1 * 2 ^ N, a2 * 2 ^ N, a3 * 2 ^ N, rfl, .inl ⟨rfl, rfl, rfl, rfl, rfl⟩, hr, ha, hb⟩
          case round =>
            clear hr ha hb
            obtain ⟨I, l0, l1, l2, l3, rfl, hcut, hr, ha, hb⟩ := hrel
            rcases hcut.out with ⟨rfl, rfl, rfl, rfl, rfl⟩ | ⟨rfl, rfl, rfl, rfl, rfl⟩ | ⟨rfl, rfl, rfl, rfl, rfl⟩ | ⟨rfl, rfl, rfl, rfl, rfl⟩ | ⟨rfl, rfl, rfl, rfl, rfl⟩
            · have y0 : wr.cell? ⟨gA, 0, none⟩ = some (.int .i32 (a0 * 2 ^ N)) := ha.cell 0
              have z0 := ha.frozen 0
              clear hcut
              go_wp2_with fail
              refine (HO0.out _).mono ?_
              rintro e w5 ⟨rfl, b5⟩
              replace hr := hr.below b5 hr.lt
              replace ha := ha.below b5 ha.lt
              replace hb := hb.on b5
              have y1 : w5.cell? ⟨gA, 0, none⟩ = some (.int .i32 (a0 * 2 ^ N)) := ha.cell 0
              have z1 := ha.frozen 0
              go_wp2
              go_round
              case rel => exact ⟨1, (overP (a0 * 2 ^ N * 1073741824) L), (a1 * 2 ^ N), (a2 * 2 ^ N), (a3 * 2 ^ N), rfl, .inr (.inl ⟨rfl, rfl, rfl, rfl, rfl⟩), hr.fr gA 0 (by omega) _, ha.set_ 0 _, hb.sc gA 0 (by omega) _⟩
              case measure => simp [intOf]
            · have y0 : wr.cell? ⟨gA, 1, none⟩ = some (.int .i32 (a1 * 2 ^ N)) := ha.cell 1
              have z0 := ha.frozen 1
              clear hcut
              go_wp2_with fail
              refine (HO1.out _).mono ?_
              rintro e w5 ⟨rfl, b5⟩
              replace hr := hr.below b5 hr.lt
              replace ha := ha.below b5 ha.lt
              replace hb := hb.on b5
              have y1 : w5.cell? ⟨gA, 1, none⟩ = some (.int .i32 (a1 * 2 ^ N)) := ha.cell 1
              have z1 := ha.frozen 1
              go_wp2
              go_round
              case rel => exact ⟨2, (overP (a0 * 2 ^ N * 1073741824) L), (overP (a1 * 2 ^ N * 1073741824) L), (a2 * 2 ^ N), (a3 * 2 ^ N), rfl, .inr (.inr (.inl ⟨rfl, rfl, rfl, rfl, rfl⟩)), hr.fr gA 1 (by omega) _, ha.set_ 1 _, hb.sc gA 1 (by omega) _⟩
              case measure => simp [intOf]
            · have y0 : wr.cell? ⟨gA, 2, none⟩ = some (.int .i32 (a2 * 2 ^ N)) := ha.cell 2
              have z0 := ha.frozen 2
              clear hcut
              go_wp2_with fail
              refine (HO2.out _).mono ?_
              rintro e w5 ⟨rfl, b5⟩
              replace hr := hr.below b5 hr.lt
              replace ha := ha.below b5 ha.lt
              replace hb := hb.on b5
              have y1 : w5.cell? ⟨gA, 2, none⟩ = some (.int .i32 (a2 * 2 ^ N)) := ha.cell 2
              have z1 := ha.frozen 2
              go_wp2
              go_round
              case rel => exact ⟨3, (overP (a0 * 2 ^ N * 1073741824) L), (overP (a1 * 2 ^ N * 1073741824) L), (overP (a2 * 2 ^ N * 1073741824) L), (a3 * 2 ^ N), rfl, .inr (.inr (.inr (.inl ⟨rfl, rfl, rfl, rfl, rfl⟩))), hr.fr gA 2 (by omega) _, ha.set_ 2 _, hb.sc gA 2 (by omega) _⟩
              case measure => simp [intOf]
            · have y0 : wr.cell? ⟨gA, 3, none⟩ = some (.int .i32 (a3 * 2 ^ N)) := ha.cell 3
              have z0 := ha.frozen 3
              clear hcut
              go_wp2_with fail
              refine (HO3.out _).mono ?_
              rintro e w5 ⟨rfl, b5⟩
              replace hr := hr.below b5 hr.lt
              replace ha := ha.below b5 ha.lt
              replace hb := hb.on b5
              have y1 : w5.cell? ⟨gA, 3, none⟩ = some (.int .i32 (a3 * 2 ^ N)) := ha.cell 3
              have z1 := ha.frozen 3
              go_wp2
              go_round
              case rel => exact ⟨4, (overP (a0 * 2 ^ N * 1073741824) L), (overP (a1 * 2 ^ N * 1073741824) L), (overP (a2 * 2 ^ N * 1073741824) L), (overP (a3 * 2 ^ N * 1073741824) L), rfl, .inr (.inr (.inr (.inr (⟨rfl, rfl, rfl, rfl, rfl⟩)))), hr.fr gA 3 (by omega) _, ha.set_ 3 _, hb.sc gA 3 (by omega) _⟩
              case measure => simp [intOf]
            · clear hcut
              have c0 : wr.cell? ⟨gA, 0, none⟩ = some (.int .i32 (overP (a0 * 2 ^ N * 1073741824) L)) := ha.cell 0
              have d0 : wr.cell? ⟨w.heap.size + 1, 0, none⟩ = some (.int .i32 0) := hr.cell 0
              have z0 := hr.frozen 0
              have c1 : wr.cell? ⟨gA, 1, none⟩ = some (.int .i32 (overP (a1 * 2 ^ N * 1073741824) L)) := ha.cell 1
              have d1 : wr.cell? ⟨w.heap.size + 1, 1, none⟩ = some (.int .i32 0) := hr.cell 1
              have z1 := hr.frozen 1
              have c2 : wr.cell? ⟨gA, 2, none⟩ = some (.int .i32 (overP (a2 * 2 ^ N * 1073741824) L)) := ha.cell 2
              have d2 : wr.cell? ⟨w.heap.size + 1, 2, none⟩ = some (.int .i32 0) := hr.cell 2
              have z2 := hr.frozen 2
              have c3 : wr.cell? ⟨gA, 3, none⟩ = some (.int .i32 (overP (a3 * 2 ^ N * 1073741824) L)) := ha.cell 3
              have d3 : wr.cell? ⟨w.heap.size + 1, 3, none⟩ = some (.int .i32 0) := hr.cell 3
              have z3 := hr.frozen 3
              have hf : Blk ((((wr.setCell ⟨w.heap.size + 1, 0, none⟩ (.int .i32 (overP (a0 * 2 ^ N * 1073741824) L))).setCell ⟨w.heap.size + 1, 1, none⟩ (.int .i32 (overP (a1 * 2 ^ N * 1073741824) L))).setCell ⟨w.heap.size + 1, 2, none⟩ (.int .i32 (overP (a2 * 2 ^ N * 1073741824) L))).setCell ⟨w.heap.size + 1, 3, none⟩ (.int .i32 (overP (a3 * 2 ^ N * 1073741824) L))) (w.heap.size + 1) 23 #[.int .i32 (overP (a0 * 2 ^ N * 1073741824) L), .int .i32 (overP (a1 * 2 ^ N * 1073741824) L), .int .i32 (overP (a2 * 2 ^ N * 1073741824) L), .int .i32 (overP (a3 * 2 ^ N * 1073741824) L)] := ((((hr.set_ 0 (.int .i32 (overP (a0 * 2 ^ N * 1073741824) L))).set_ 1 (.int .i32 (overP (a1 * 2 ^ N * 1073741824) L))).set_ 2 (.int .i32 (overP (a2 * 2 ^ N * 1073741824) L))).set_ 3 (.int .i32 (overP (a3 * 2 ^ N * 1073741824) L)))
              have hbf : Below w.heap.size w ((((wr.setCell ⟨w.heap.size + 1, 0, none⟩ (.int .i32 (overP (a0 * 2 ^ N * 1073741824) L))).setCell ⟨w.heap.size + 1, 1, none⟩ (.int .i32 (overP (a1 * 2 ^ N * 1073741824) L))).setCell ⟨w.heap.size + 1, 2, none⟩ (.int .i32 (overP (a2 * 2 ^ N * 1073741824) L))).setCell ⟨w.heap.size + 1, 3, none⟩ (.int .i32 (overP (a3 * 2 ^ N * 1073741824) L))) := ((((hb.sc (w.heap.size + 1) 0 (by omega) (.int .i32 (overP (a0 * 2 ^ N * 1073741824) L))).sc (w.heap.size + 1) 1 (by omega) (.int .i32 (overP (a1 * 2 ^ N * 1073741824) L))).sc (w.heap.size + 1) 2 (by omega) (.int .i32 (overP (a2 * 2 ^ N * 1073741824) L))).sc (w.heap.size + 1) 3 (by omega) (.int .i32 (overP (a3 * 2 ^ N * 1073741824) L)))
              have HF : Hid (Makes a0 a1 a2 a3 w (.returned (.tuple #[.agg #[.int .i32 (overP (a0 * 2 ^ N * 1073741824) L), .int .i32 (overP (a1 * 2 ^ N * 1073741824) L), .int .i32 (overP (a2 * 2 ^ N * 1073741824) L), .int .i32 (overP (a3 * 2 ^ N * 1073741824) L)], .bool true])) ((((wr.setCell ⟨w.heap.size + 1, 0, none⟩ (.int .i32 (overP (a0 * 2 ^ N * 1073741824) L))).setCell ⟨w.heap.size + 1, 1, none⟩ (.int .i32 (overP (a1 * 2 ^ N * 1073741824) L))).setCell ⟨w.heap.size + 1, 2, none⟩ (.int .i32 (overP (a2 * 2 ^ N * 1073741824) L))).setCell ⟨w.heap.size + 1, 3, none⟩ (.int .i32 (overP (a3 * 2 ^ N * 1073741824) L)))) := by
                have e1 : upN [a0, a1, a2, a3] = N := hN
                have e2 : ¬ farP [a0, a1, a2, a3] = 0 := by omega
                unfold Makes makeP oneP
                rw [HE.out, e1, if_neg e2, if_neg e2, if_neg e2, if_neg e2, decide_eq_true hz]
                exact ⟨rfl, hbf⟩
              go_wp2
              generalize ((((wr.setCell ⟨w.heap.size + 1, 0, none⟩ (.int .i32 (overP (a0 * 2 ^ N * 1073741824) L))).setCell ⟨w.heap.size + 1, 1, none⟩ (.int .i32 (overP (a1 * 2 ^ N * 1073741824) L))).setCell ⟨w.heap.size + 1, 2, none⟩ (.int .i32 (overP (a2 * 2 ^ N * 1073741824) L))).setCell ⟨w.heap.size + 1, 3, none⟩ (.int .i32 (overP (a3 * 2 ^ N * 1073741824) L))) = wf at *
              have e0 : wf.cell? ⟨w.heap.size + 1, 0, none⟩ = some (.int .i32 (overP (a0 * 2 ^ N * 1073741824) L)) := hf.cell 0
              have e1 : wf.cell? ⟨w.heap.size + 1, 1, none⟩ = some (.int .i32 (overP (a1 * 2 ^ N * 1073741824) L)) := hf.cell 1
              have e2 : wf.cell? ⟨w.heap.size + 1, 2, none⟩ = some (.int .i32 (overP (a2 * 2 ^ N * 1073741824) L)) := hf.cell 2
              have e3 : wf.cell? ⟨w.heap.size + 1, 3, none⟩ = some (.int .i32 (overP (a3 * 2 ^ N * 1073741824) L)) := hf.cell 3
              generalize overP (a0 * 2 ^ N * 1073741824) L = U0 at *
              generalize overP (a1 * 2 ^ N * 1073741824) L = U1 at *
              generalize overP (a2 * 2 ^ N * 1073741824) L = U2 at *
              generalize overP (a3 * 2 ^ N * 1073741824) L = U3 at *
              simp [bodyPost, results, Tryz.results91, go_sem, e0, e1, e2, e3]
              exact HF.out
end Go.Proofs.YtgmepohfkpncmaaGreat
