/- Chapter 12: small.Unpack. -/
import Derived.Test.YtfogjfmpgfcolaaSmallE
namespace Go.Proofs.Ytfogjfmpgfcolaa
open Go.RowKit
set_option linter.unusedVariables false
set_option linter.unusedSimpArgs false
attribute [local go_sem] Oper.semAt_some
theorem results_qb (w : World) (tmps : Array Value) (g h : Nat) (cs : Array Value) (b : Bool) (h2 : tmps.getD 2 undef = .pointer (some ⟨g, 0, none⟩)) (h3 : tmps.getD 3 undef = .pointer (some ⟨h, 0, none⟩))
    (hg : Blk w g 23 cs) (hs : cs.size = 4) (hh : Blk w h 4 #[.bool b]) : (results Try.f30 tmps).run Try.prog w = .ok (.tuple #[.agg cs, .bool b]) w := by
  obtain ⟨c0, c1, c2, c3, rfl⟩ : ∃ c0 c1 c2 c3, cs = #[c0, c1, c2, c3] := ⟨cs[0], cs[1], cs[2], cs[3], by
    apply Array.ext
    · simp [hs]
    · intro i h1 h2
      obtain rfl | rfl | rfl | rfl : i = 0 ∨ i = 1 ∨ i = 2 ∨ i = 3 := by simp at h2; omega
      all_goals rfl⟩
  have f0 := hg.cell 0
  have f1 := hg.cell 1
  have f2 := hg.cell 2
  have f3 := hg.cell 3
  have f4 := hh.cell 0
  simp at f0 f1 f2 f3 f4
  simp at h2 h3
  simp only [results, Try.f30]
  simp [h2, h3]
  go_simp
theorem unC_is (b : Nat) (p1 p2 p3 : Int) (hb : b < 4) : ∃ x0 x1 x2 x3, unC b p1 p2 p3 = #[.int .i32 x0, .int .i32 x1, .int .i32 x2, .int .i32 x3] := by
  match b, hb with
  | 0, _ => exact ⟨_, _, _, _, rfl⟩
  | 1, _ => exact ⟨_, _, _, _, rfl⟩
  | 2, _ => exact ⟨_, _, _, _, rfl⟩
  | 3, _ => exact ⟨_, _, _, _, rfl⟩
set_option maxRecDepth 20000 in
set_option maxHeartbeats 8000000 in
theorem s_Unpack (u p1 p2 p3 : Int) (b : Nat) (w : World) (hu : 0 ≤ u ∧ u ≤ 4294967295) (hb : b < 4) (h1 : 0 ≤ p1 ∧ p1 ≤ 1023) (h2 : 0 ≤ p2 ∧ p2 ≤ 1023) (h3 : 0 ≤ p3 ∧ p3 ≤ 1023) (hp : splitP u widL = [(b : Int), p1, p2, p3]) :
    Calls Try.prog 30 #[.int .u32 u] w fun e w' => e = .returned (.tuple #[.agg (unV b p1 p2 p3), .bool (unB p1 p2 p3)]) ∧ Below w.heap.size w w' := by
  have hmf : ∀ (fn : Fn) (first cap : Array Value) (w : World), (Instr.makeFunc fn first cap).run Try.prog w = .ok (.func fn first cap) w := fun _ _ _ _ => rfl
  have HO := hid s_others
  have HW := hid s_widths
  have hok : okF 32 widL = true := by decide +kernel
  have HS := hid fun (w : World) gw (hw : Row .i64 w w.heap.size (some ⟨gw, 0, none⟩) 4 widL) => b_Split (some ⟨gw, 0, none⟩) 4 4 widL u w hu hw (by decide) (by omega)
  rw [hp, hok] at HS
  simp only [List.length_cons, List.length_nil, Nat.reduceAdd] at HS
  clear hp hok
  refine callsIn_wide.1 (callsIn_of_wp_marks (n := 3) Try.func30 rfl trivial ?_ rfl)
  simp only [Try.ntmps30, List.size_toArray, List.length_cons, List.length_nil, Nat.reduceAdd, Nat.reduceSub, Array.replicate_succ, Array.replicate_zero, List.push_toArray, List.append_toArray, List.nil_append, List.cons_append]
  refine wpIn_wide.2 ?_
  have ub : IntKind.i64.wrap (b : Int) = (b : Int) := IntWalk.i64_in _ (by omega)
  have hq := (Blk.new w 23 #[.int .i32 0, .int .i32 0, .int .i32 0, .int .i32 0]).alloc (.cells #[.bool false] 4)
  have hk := Blk.new (w.alloc (.cells #[.int .i32 0, .int .i32 0, .int .i32 0, .int .i32 0] 23)) 4 #[.bool false]
  have hB := ((Below.refl w.heap.size w).alloc (Nat.le_refl _) (.cells #[.int .i32 0, .int .i32 0, .int .i32 0, .int .i32 0] 23)).alloc (by simp) (.cells #[.bool false] 4)
  simp only [World.size_alloc] at hk
  go_wp2_with fail
  have hB2 : w.heap.size + 2 ≤ ((w.alloc (.cells #[.int .i32 0, .int .i32 0, .int .i32 0, .int .i32 0] 23)).alloc (.cells #[.bool false] 4)).heap.size := by simp
  generalize (w.alloc (.cells #[.int .i32 0, .int .i32 0, .int .i32 0, .int .i32 0] 23)).alloc (.cells #[.bool false] 4) = W0 at *
  have hq3 : w.heap.size + 2 ≤ W0.heap.size := hB2
  refine (HW.out _).mono ?_
  rintro e W1 ⟨rfl, rfl⟩
  have gw := Blk.new W0 3 #[.int .i64 2, .int .i64 10, .int .i64 10, .int .i64 10]
  replace hq := hq.alloc (.cells #[.int .i64 2, .int .i64 10, .int .i64 10, .int .i64 10] 3)
  replace hk := hk.alloc (.cells #[.int .i64 2, .int .i64 10, .int .i64 10, .int .i64 10] 3)
  replace hB := hB.alloc hB.size (.cells #[.int .i64 2, .int .i64 10, .int .i64 10, .int .i64 10] 3)
  have hlt : W0.heap.size < (W0.alloc (.cells #[.int .i64 2, .int .i64 10, .int .i64 10, .int .i64 10] 3)).heap.size := by simp
  generalize W0.alloc (.cells #[.int .i64 2, .int .i64 10, .int .i64 10, .int .i64 10] 3) = W1 at *
  generalize W0.heap.size = gwn at *
  go_wp2_with fail
  refine (HS.out W1 gwn (Row.blk (xs := widL) gw rfl hlt)).mono ?_
  rintro e W2 ⟨A, c, rfl, hr, b2⟩
  clear gw
  replace hq := hq.below b2 hq.lt
  replace hk := hk.below b2 hk.lt
  replace hB := hB.trans (b2.mono hB.size)
  have hW2 : w.heap.size + 2 ≤ W2.heap.size := by have := b2.size; omega
  clear b2 hlt hq3
  obtain ⟨ad, rfl, had, _⟩ := hr.at_ (show 0 < 4 by omega)
  have gP := Blk.new W2 80 #[.slice (some ad) 4 c]
  have hW3 : W2.heap.size + 1 ≤ (W2.alloc (.cells #[.slice (some ad) 4 c] 80)).heap.size := by simp
  replace hr := hr.alloc (Nat.le_refl _) (.cells #[.slice (some ad) 4 c] 80)
  replace hq := hq.alloc (.cells #[.slice (some ad) 4 c] 80)
  replace hk := hk.alloc (.cells #[.slice (some ad) 4 c] 80)
  replace hB := hB.alloc hB.size (.cells #[.slice (some ad) 4 c] 80)
  have f0 : (W2.alloc (.cells #[.slice (some ad) 4 c] 80)).cell? ⟨W2.heap.size, 0, none⟩ = some (.slice (some ad) 4 c) := gP.cell 0
  have f1 : (W2.alloc (.cells #[.slice (some ad) 4 c] 80)).cell? (ad.add 0) = some (.int .u32 b) := (hr.2.2 ad rfl 0 (by omega)).2
  have f2 : (W2.alloc (.cells #[.slice (some ad) 4 c] 80)).cell? ad = some (.int .u32 b) := f1
  go_wp2_with fail
  clear f0 f1 f2
  have hS3 : (W2.alloc (.cells #[.slice (some ad) 4 c] 80)).heap.size = W2.heap.size + 1 := by simp
  generalize W2.alloc (.cells #[.slice (some ad) 4 c] 80) = W3 at *
  generalize W2.heap.size = gp at *
  have e1 := Blk.new W3 50 #[.int .i32 0, .int .i32 0, .int .i32 0, .int .i32 0]
  have e2 := Blk.new (W3.alloc (.cells #[.int .i32 0, .int .i32 0, .int .i32 0, .int .i32 0] 50)) 2 #[.int .i64 1152921504606846976]
  simp only [World.size_alloc] at e2
  replace e1 := e1.alloc (.cells #[.int .i64 1152921504606846976] 2)
  replace hq := (hq.alloc (.cells #[.int .i32 0, .int .i32 0, .int .i32 0, .int .i32 0] 50)).alloc (.cells #[.int .i64 1152921504606846976] 2)
  replace hk := (hk.alloc (.cells #[.int .i32 0, .int .i32 0, .int .i32 0, .int .i32 0] 50)).alloc (.cells #[.int .i64 1152921504606846976] 2)
  replace gP := (gP.alloc (.cells #[.int .i32 0, .int .i32 0, .int .i32 0, .int .i32 0] 50)).alloc (.cells #[.int .i64 1152921504606846976] 2)
  replace hr := (hr.alloc (by omega) (.cells #[.int .i32 0, .int .i32 0, .int .i32 0, .int .i32 0] 50)).alloc (by simp; omega) (.cells #[.int .i64 1152921504606846976] 2)
  replace hB := (hB.alloc hB.size (.cells #[.int .i32 0, .int .i32 0, .int .i32 0, .int .i32 0] 50)).alloc (by simp; have := hB.size; omega) (.cells #[.int .i64 1152921504606846976] 2)
  have hS4 : ((W3.alloc (.cells #[.int .i32 0, .int .i32 0, .int .i32 0, .int .i32 0] 50)).alloc (.cells #[.int .i64 1152921504606846976] 2)).heap.size = gp + 1 + 1 + 1 := by simp [hS3]
  generalize (W3.alloc (.cells #[.int .i32 0, .int .i32 0, .int .i32 0, .int .i32 0] 50)).alloc (.cells #[.int .i64 1152921504606846976] 2) = W4 at *
  rw [hS3] at e1 e2
  clear hS3 hW3
  refine (HO.out b W4).mono ?_
  rintro e w4 ⟨rfl, rfl⟩
  have e5 := Blk.new W4 3 #[.int .i64 b]
  have hS5 : (W4.alloc (.cells #[.int .i64 b] 3)).heap.size = gp + 4 := by simp [hS4]
  replace e1 := e1.alloc (.cells #[.int .i64 b] 3)
  replace e2 := e2.alloc (.cells #[.int .i64 b] 3)
  replace hq := hq.alloc (.cells #[.int .i64 b] 3)
  replace hk := hk.alloc (.cells #[.int .i64 b] 3)
  replace gP := gP.alloc (.cells #[.int .i64 b] 3)
  replace hr := hr.alloc (by omega) (.cells #[.int .i64 b] 3)
  replace hB := hB.alloc hB.size (.cells #[.int .i64 b] 3)
  rw [hS4] at e5 ⊢
  generalize W4.alloc (.cells #[.int .i64 b] 3) = W5 at *
  clear hS4
  go_wp2_with fail
  refine range_wide (gf := 89) (lb := #[.pointer (some ⟨gp + 1 + 1 + 1, 0, none⟩)]) (encs := encO b) (Kp := KeepsB (gp + 1 + 1 + 1)) (S := fun ys => ys = upK 3) (Sp := fun pre => ∃ k, k ≤ 3 ∧ pre = upK k) (N := 3) (w0 := W5) ?hg (enters_of Try.func89 (by kernel_rfl) rfl) (others_stops 2 (gp + 1 + 1 + 1) b hb W5 e5) keepsB_t (keepsB_b (by omega)) (Below.refl _ _) (fun _ => rfl)
    (fun pre W => Blk W gp 80 #[.slice (some ad) 4 c] ∧ Row .u32 W gp (some ad) 4 [(b : Int), p1, p2, p3] ∧ Blk W (gp + 1) 50 (cellsP b p1 p2 p3 pre) ∧ Blk W (gp + 1 + 1) 2 #[.int .i64 (leftP p1 p2 p3 pre)] ∧ Blk W w.heap.size 23 #[.int .i32 0, .int .i32 0, .int .i32 0, .int .i32 0] ∧ Blk W (w.heap.size + 1) 4 #[.bool false] ∧ Below w.heap.size w W ∧ gp + 4 ≤ W.heap.size ∧ Blk W (gp + 1 + 1 + 1) 3 #[.int .i64 b] ∧ ∀ k ∈ pre, pk p1 p2 p3 k.1 ≠ 0)
    (fun cd pre W => cd = .ret ∧ Blk W w.heap.size 23 #[.int .i32 0, .int .i32 0, .int .i32 0, .int .i32 0] ∧ Blk W (w.heap.size + 1) 4 #[.bool false] ∧ Below w.heap.size w W ∧ w.heap.size + 2 ≤ W.heap.size ∧ ∃ k ∈ pre, pk p1 p2 p3 k.1 = 0) ?hI ?hIx ⟨gP, hr, e1, e2, hq, hk, hB, by omega, e5, fun _ h => by cases h⟩ (fun x => { tmps := #[.int .u32 u, undef, .pointer (some ⟨w.heap.size, 0, none⟩), .pointer (some ⟨w.heap.size + 1, 0, none⟩), .pointer (some ⟨gp, 0, none⟩), .bool true, .int .i64 b, .pointer (some ⟨gp + 1, 0, none⟩), .pointer (some ⟨gp + 1 + 1, 0, none⟩), .int .i64 (x.1 : Int), .int .i64 (oth b x.1 : Int), undef, .tuple #[.slice (some ad) 4 c, .bool true], .int .u32 u, .slice (some ⟨gwn, 0, none⟩) 4 4, .tuple #[.slice (some ad) 4 c, .bool true], .slice (some ad) 4 c, .bool true, .slice (some ad) 4 c, .pointer (some ad), .int .u32 b, .int .i64 b, .int .i64 b, .func (.func 89) #[] #[.pointer (some ⟨gp + 1 + 1 + 1, 0, none⟩)], .int .i64 (x.1 : Int), .int .i64 (oth b x.1 : Int), undef, undef, undef, undef, undef, undef, undef, undef, undef, undef, undef, undef, undef, undef, undef, undef, undef, undef, undef, undef, undef, undef, undef, undef, undef, undef, undef, undef, undef, undef, undef, undef, undef, undef, undef, undef, undef, undef, undef, undef], defers := [] }) ?assign ?body ?done ?stop
  case hg => rfl
  case hI =>
    rintro pre A B row ⟨h1, h2, h3, h4, h5, h6, h7, h8, h9, h10⟩ hg hr
    have hs : A.heap.size ≤ B.heap.size := hg.size
    have hb : Below (gp + 4) A B := ⟨hg.os, hg.tape, hg.output, hg.size, fun i hi => hg.block i (by omega) (fun e => by have := (hr i e.symm).1; omega)⟩
    exact ⟨h1.below hb (by omega), h2.below (hb.mono (by omega)), h3.below hb (by omega), h4.below hb (by omega), h5.below hb (by omega), h6.below hb (by omega), h7.trans (hb.mono (by omega)), by omega, h9.below hb (by omega), h10⟩
  case hIx =>
    rintro cd pre A B row ⟨h1, h2, h3, h4, h5, h6⟩ hg hr
    have hs : A.heap.size ≤ B.heap.size := hg.size
    have hb : Below (w.heap.size + 2) A B := ⟨hg.os, hg.tape, hg.output, hg.size, fun i hi => hg.block i (by omega) (fun e => by have := (hr i e.symm).1; omega)⟩
    exact ⟨h1, h2.below hb (by omega), h3.below hb (by omega), h4.trans (hb.mono (by omega)), by omega, h6⟩
  case assign =>
    intro l x W K hK
    simp only [encO]
    gi_wp2
    exact hK
  case stop =>
    rintro D cd pre W hD hp ⟨rfl, g1, g2, g3, g4, kz, hkm, hz⟩ hK
    have hDl : D < W.heap.size := by rcases Nat.lt_or_ge D W.heap.size with h | h; exact h; rw [Array.getElem?_eq_none h] at hK; cases hK
    have HU : unB p1 p2 p3 = false := by
      unfold unB
      obtain ⟨k, hk⟩ := kz
      match k, hk with
      | 0, _ => simp only [pk] at hz; simp at hz; simp [hz]
      | 1, _ => simp only [pk] at hz; simp at hz; simp [hz]
      | 2, _ => simp only [pk] at hz; simp at hz; simp [hz]
    have HV : unV b p1 p2 p3 = #[.int .i32 0, .int .i32 0, .int .i32 0, .int .i32 0] := by unfold unV; rw [HU]; rfl
    clear hz
    go_wp2_with fail
    refine ⟨by simp, .inl ⟨_, _, rfl, run_takeDeferred hK, ?_⟩⟩
    have hb := belowK_b (n₀ := w.heap.size + 2) (w := W5) (by omega) W D _ (.deferred none) hD hK rfl rfl
    refine ⟨_, results_qb _ _ w.heap.size (w.heap.size + 1) _ false rfl rfl (g1.below hb (by omega)) rfl (g2.below hb (by omega)), ?_, g3.trans (hb.mono (by omega))⟩
    rw [HU, HV]
  case body =>
    rintro l pre ⟨k, hk3⟩ W ⟨g1, g2, g3, g4, g5, g6, g7, g8, g9, g10⟩ hpl
    dsimp only
    have ho4 : oth b k < 4 := by unfold oth; split <;> omega
    have hnn := pk_bd p1 p2 p3 k h1 h2 h3
    have hgn : [(b : Int), p1, p2, p3][k + 1]?.getD 0 = pk p1 p2 p3 k := rfl
    have hcs := cellsP_app b p1 p2 p3 pre ⟨k, hk3⟩
    have hlf := leftP_app p1 p2 p3 pre ⟨k, hk3⟩
    have hl3 := leftP_bd p1 p2 p3 pre h1 h2 h3 (by omega)
    have hl4 := leftP_bd p1 p2 p3 (pre ++ [⟨k, hk3⟩]) h1 h2 h3 (by simp; omega)
    have hsz4 := cellsP_size b p1 p2 p3 pre
    dsimp only at hcs hlf
    rw [hlf] at hl4
    have hpt := part_bd (pk p1 p2 p3 k) hnn
    have hps := part_sq (pk p1 p2 p3 k) hnn
    have HP := hid fun w => s_part (pk p1 p2 p3 k) w hnn
    have hmem : ∀ x ∈ pre ++ [(⟨k, hk3⟩ : K3)], x ∈ pre ∨ x = ⟨k, hk3⟩ := fun x hx => by rcases List.mem_append.1 hx with h | h; exact .inl h; exact .inr (by simpa using h)
    have hne : Hid (pk p1 p2 p3 k ≠ 0 → ∀ x ∈ pre ++ [(⟨k, hk3⟩ : K3)], pk p1 p2 p3 x.1 ≠ 0) := hid fun h x hx => by rcases hmem x hx with h' | rfl; exact g10 x h'; exact h
    have hez : Hid (pk p1 p2 p3 k = 0 → ∃ x ∈ pre ++ [(⟨k, hk3⟩ : K3)], pk p1 p2 p3 x.1 = 0) := hid fun h => ⟨⟨k, hk3⟩, by simp, h⟩
    clear hmem g10
    obtain ⟨j, hj⟩ : ∃ j, k + 1 = j := ⟨_, rfl⟩
    rw [hj] at hgn
    have uj : IntKind.i64.wrap ((k : Int) + 1) = (j : Int) := by rw [← hj]; exact IntWalk.i64_in _ (by omega)
    have cj0 := (g2.2.2 ad rfl j (by omega)).2
    rw [hgn] at cj0
    have j1 : (0 : Int) ≤ (j : Int) := by omega
    have j2 : (j : Int) < 4 := by omega
    have g9W := hid g9
    clear g9
    generalize hcc : cellsP b p1 p2 p3 pre = cs at *
    generalize hll : leftP p1 p2 p3 pre = lf at *
    generalize hpp : partP (pk p1 p2 p3 k) = x at *
    generalize hnv : pk p1 p2 p3 k = n at *
    generalize hoo : oth b k = i at *
    have i1 : (0 : Int) ≤ (i : Int) := by omega
    have i2 : (i : Int) < 4 := by omega
    have ux : IntKind.i32.wrap x = x := IntWalk.i32_in _ (by omega)
    have uxx : IntKind.i64.wrap (x * x) = x * x := IntWalk.i64_in _ (by omega)
    have ulx : IntKind.i64.wrap (lf - x * x) = lf - x * x := IntWalk.i64_in _ (by omega)
    have f0 : W.cell? ⟨gp, 0, none⟩ = some (.slice (some ad) 4 c) := g1.cell 0
    clear hcc hll hpp hnv hoo hnn hgn hj
    have c0 : W.cell? ⟨w.heap.size, 0, none⟩ = some (.int .i32 0) := g5.cell 0
    have c1 : W.cell? ⟨w.heap.size, 1, none⟩ = some (.int .i32 0) := g5.cell 1
    have c2 : W.cell? ⟨w.heap.size, 2, none⟩ = some (.int .i32 0) := g5.cell 2
    have c3 : W.cell? ⟨w.heap.size, 3, none⟩ = some (.int .i32 0) := g5.cell 3
    have z0 := g5.frozen 0
    have z1 := g5.frozen 1
    have z2 := g5.frozen 2
    have z3 := g5.frozen 3
    have d0 : W.cell? ⟨w.heap.size + 1, 0, none⟩ = some (.bool false) := g6.cell 0
    have y0 := g6.frozen 0
    by_cases hz : n = 0
    · subst hz
      gi_wp2_with fail
      refine ⟨(((((KeepsOthers.setCell _ _ _).trans (KeepsOthers.setCell _ _ _)).trans (KeepsOthers.setCell _ _ _)).trans (KeepsOthers.setCell _ _ _)).trans (KeepsOthers.setCell _ _ _)), rfl, ?_, ?_, ?_, ?_, ?_⟩
      · have := ((((g5.set_ 0 (.int .i32 0)).set_ 1 (.int .i32 0)).set_ 2 (.int .i32 0)).set_ 3 (.int .i32 0)).far (p := ⟨w.heap.size + 1, 0, none⟩) (by simp) (.bool false)
        simpa using this
      · have := ((((g6.far (p := ⟨w.heap.size, 0, none⟩) (by simp) (.int .i32 0)).far (p := ⟨w.heap.size, 1, none⟩) (by simp) (.int .i32 0)).far (p := ⟨w.heap.size, 2, none⟩) (by simp) (.int .i32 0)).far (p := ⟨w.heap.size, 3, none⟩) (by simp) (.int .i32 0)).set_ 0 (.bool false)
        simpa using this
      · exact ((((g7.setCell (by simp) _).setCell (by simp) _).setCell (by simp) _).setCell (by simp) _).setCell (by simp) _
      · simp; omega
      · obtain ⟨x, hx1, hx2⟩ := hez.out (by trivial)
        exact ⟨x.1, ⟨x.2, hx1⟩, hx2⟩
    · have dz : decide (n = 0) = false := by simpa using hz
      clear c0 c1 c2 c3 z0 z1 z2 z3 d0 y0
      have hgl : gp + 4 ≤ W.heap.size := g8
      gi_wp2_with fail
      refine ⟨trivial, CallsIn.inRound l (callsIn_wide.2 ((HP.out _).mono ?_))⟩
      rintro e W' ⟨rfl, b6⟩
      have ko : KeepsOthers W W' := KeepsOthers.of_grownBy (row := none) ⟨b6.os, b6.tape, b6.output, b6.size, fun k hk _ => b6.block k hk⟩ (fun j o e => by cases e)
      have kb : KeepsB (gp + 1 + 1 + 1) W W' := b6.block (gp + 1 + 1 + 1) (by omega)
      replace g1 := g1.below b6 g1.lt
      replace g2 := g2.below (b6.mono (by omega))
      replace g3 := g3.below b6 g3.lt
      replace g4 := g4.below b6 g4.lt
      replace g5 := g5.below b6 g5.lt
      replace g6 := g6.below b6 g6.lt
      replace g7 := g7.trans (b6.mono g7.size)
      have g9 := (show Blk _ _ _ _ from g9W.out).below b6 (by omega)
      replace g8 : gp + 4 ≤ W'.heap.size := Nat.le_trans g8 b6.size
      clear b6 f0 cj0
      obtain ⟨old, hold⟩ : ∃ old, cs[i]? = some old := ⟨cs[i], by simp⟩
      have r0 : W'.cell? ⟨gp + 1, i, none⟩ = some old := (g3.cell i).trans hold
      have r1 := g3.frozen i
      have q0 : W'.cell? ⟨gp + 1 + 1, 0, none⟩ = some (.int .i64 lf) := g4.cell 0
      have q1 := g4.frozen 0
      gi_wp2_with fail
      refine (show _ ∧ _ ∧ _ from ⟨ko.trans ((KeepsOthers.setCell _ _ _).trans (KeepsOthers.setCell _ _ _)), ?_, ?_, ?_, ?_, ?_, ?_, ?_, ?_, ?_, ?_, ?_⟩)
      · exact (Below.heap_setCell _ _ _ (gp + 1 + 1 + 1) (by simp <;> omega)).trans ((Below.heap_setCell _ _ _ (gp + 1 + 1 + 1) (by simp <;> omega)).trans kb)
      · exact (g1.far (by simp <;> omega) _).far (by simp <;> omega) _
      · exact (g2.setCell (by simp <;> omega) _).setCell (by simp <;> omega) _
      · rw [hcs]; exact (g3.set_ i _).far (by simp <;> omega) _
      · rw [hlf]; exact (g4.far (by simp <;> omega) _).set_ 0 _
      · exact (g5.far (by simp <;> omega) _).far (by simp <;> omega) _
      · exact (g6.far (by simp <;> omega) _).far (by simp <;> omega) _
      · exact (g7.setCell (by simp <;> omega) _).setCell (by simp <;> omega) _
      · simp; omega
      · exact (g9.far (by simp <;> omega) _).far (by simp <;> omega) _
      · exact hne.out hz
  case done =>
    rintro D ys W hD rfl ⟨g1, g2, g3, g4, g5, g6, g7, g8, g9, g10⟩ hK
    have hz1 : p1 ≠ 0 := g10 ⟨0, by omega⟩ (by simp [upK])
    have hz2 : p2 ≠ 0 := g10 ⟨1, by omega⟩ (by simp [upK])
    have hz3 : p3 ≠ 0 := g10 ⟨2, by omega⟩ (by simp [upK])
    have hl3 := leftP_bd p1 p2 p3 (upK 3) h1 h2 h3 (by simp [upK])
    have HU : unB p1 p2 p3 = decide (0 ≤ leftP p1 p2 p3 (upK 3)) := by unfold unB; simp [hz1, hz2, hz3]
    have hDl : D < W.heap.size := by rcases Nat.lt_or_ge D W.heap.size with h | h; exact h; rw [Array.getElem?_eq_none h] at hK; cases hK
    obtain ⟨x0, x1, x2, x3, hxx⟩ := unC_is b p1 p2 p3 hb
    have HX := hid hxx
    have HV : Hid (0 ≤ leftP p1 p2 p3 (upK 3) → unV b p1 p2 p3 = #[.int .i32 x0, .int .i32 x1, .int .i32 x2, .int .i32 x3] ∧ unB p1 p2 p3 = true) := hid fun h => by
      have : unB p1 p2 p3 = true := by rw [HU]; simpa using h
      exact ⟨by unfold unV; rw [if_pos this, hxx], this⟩
    have HV0 : Hid (leftP p1 p2 p3 (upK 3) < 0 → unV b p1 p2 p3 = #[.int .i32 0, .int .i32 0, .int .i32 0, .int .i32 0] ∧ unB p1 p2 p3 = false) := hid fun h => by
      have : unB p1 p2 p3 = false := by rw [HU]; simp; omega
      exact ⟨by unfold unV; rw [this]; rfl, this⟩
    unfold unC at hxx
    clear g10 hz1 hz2 hz3 HU
    have hsz4 := cellsP_size b p1 p2 p3 (upK 3)
    generalize cellsP b p1 p2 p3 (upK 3) = cs at *
    generalize leftP p1 p2 p3 (upK 3) = lf at *
    have q0 : W.cell? ⟨gp + 1 + 1, 0, none⟩ = some (.int .i64 lf) := g4.cell 0
    have c0 : W.cell? ⟨w.heap.size, 0, none⟩ = some (.int .i32 0) := g5.cell 0
    have c1 : W.cell? ⟨w.heap.size, 1, none⟩ = some (.int .i32 0) := g5.cell 1
    have c2 : W.cell? ⟨w.heap.size, 2, none⟩ = some (.int .i32 0) := g5.cell 2
    have c3 : W.cell? ⟨w.heap.size, 3, none⟩ = some (.int .i32 0) := g5.cell 3
    have z0 := g5.frozen 0
    have z1 := g5.frozen 1
    have z2 := g5.frozen 2
    have z3 := g5.frozen 3
    have d0 : W.cell? ⟨w.heap.size + 1, 0, none⟩ = some (.bool false) := g6.cell 0
    have y0 := g6.frozen 0
    by_cases hlf : lf < 0
    · clear hxx
      go_wp2_with fail
      have G5 : Blk (((((W.setCell ⟨w.heap.size, 0, none⟩ (.int .i32 0)).setCell ⟨w.heap.size, 1, none⟩ (.int .i32 0)).setCell ⟨w.heap.size, 2, none⟩ (.int .i32 0)).setCell ⟨w.heap.size, 3, none⟩ (.int .i32 0)).setCell ⟨w.heap.size + 1, 0, none⟩ (.bool false)) w.heap.size 23 #[.int .i32 0, .int .i32 0, .int .i32 0, .int .i32 0] := by
        have := ((((g5.set_ 0 (.int .i32 0)).set_ 1 (.int .i32 0)).set_ 2 (.int .i32 0)).set_ 3 (.int .i32 0)).far (p := ⟨w.heap.size + 1, 0, none⟩) (by simp) (.bool false)
        simpa using this
      have G6 : Blk (((((W.setCell ⟨w.heap.size, 0, none⟩ (.int .i32 0)).setCell ⟨w.heap.size, 1, none⟩ (.int .i32 0)).setCell ⟨w.heap.size, 2, none⟩ (.int .i32 0)).setCell ⟨w.heap.size, 3, none⟩ (.int .i32 0)).setCell ⟨w.heap.size + 1, 0, none⟩ (.bool false)) (w.heap.size + 1) 4 #[.bool false] := by
        have := ((((g6.far (p := ⟨w.heap.size, 0, none⟩) (by simp) (.int .i32 0)).far (p := ⟨w.heap.size, 1, none⟩) (by simp) (.int .i32 0)).far (p := ⟨w.heap.size, 2, none⟩) (by simp) (.int .i32 0)).far (p := ⟨w.heap.size, 3, none⟩) (by simp) (.int .i32 0)).set_ 0 (.bool false)
        simpa using this
      have hK2 : (((((W.setCell ⟨w.heap.size, 0, none⟩ (.int .i32 0)).setCell ⟨w.heap.size, 1, none⟩ (.int .i32 0)).setCell ⟨w.heap.size, 2, none⟩ (.int .i32 0)).setCell ⟨w.heap.size, 3, none⟩ (.int .i32 0)).setCell ⟨w.heap.size + 1, 0, none⟩ (.bool false)).heap[D]? = some (.deferred (some [])) := by
        rw [Below.heap_setCell _ _ _ D (by simp; omega), Below.heap_setCell _ _ _ D (by simp; omega), Below.heap_setCell _ _ _ D (by simp; omega), Below.heap_setCell _ _ _ D (by simp; omega), Below.heap_setCell _ _ _ D (by simp; omega)]
        exact hK
      have G7 : Below w.heap.size w (((((W.setCell ⟨w.heap.size, 0, none⟩ (.int .i32 0)).setCell ⟨w.heap.size, 1, none⟩ (.int .i32 0)).setCell ⟨w.heap.size, 2, none⟩ (.int .i32 0)).setCell ⟨w.heap.size, 3, none⟩ (.int .i32 0)).setCell ⟨w.heap.size + 1, 0, none⟩ (.bool false)) :=
        ((((g7.setCell (by simp) _).setCell (by simp) _).setCell (by simp) _).setCell (by simp) _).setCell (by simp) _
      generalize ((((W.setCell ⟨w.heap.size, 0, none⟩ (.int .i32 0)).setCell ⟨w.heap.size, 1, none⟩ (.int .i32 0)).setCell ⟨w.heap.size, 2, none⟩ (.int .i32 0)).setCell ⟨w.heap.size, 3, none⟩ (.int .i32 0)).setCell ⟨w.heap.size + 1, 0, none⟩ (.bool false) = WE at *
      refine ⟨by simp, .inl ⟨_, _, rfl, run_takeDeferred hK2, ?_⟩⟩
      have hb := belowK_b (n₀ := w.heap.size + 2) (w := W5) (by omega) WE D _ (.deferred none) hD hK2 rfl rfl
      refine ⟨_, results_qb _ _ w.heap.size (w.heap.size + 1) _ false rfl rfl (G5.below hb (by omega)) rfl (G6.below hb (by omega)), ?_, G7.trans (hb.mono (by omega))⟩
      rw [(HV0.out hlf).1, (HV0.out hlf).2]
    · have u1 : IntKind.u64.wrap lf = lf := by simp [IntKind.wrap_u64]; omega
      have hrb := root_bd lf (by omega) (by omega)
      have hr30 : rootP lf ≤ 1073741824 := by
        have h5 := root_mono (n := lf) (m := 1152921504606846976) (by omega) (by omega)
        have h6 : rootP 1152921504606846976 = 1073741824 := root_eq (by omega) (by omega) (by omega)
        omega
      have HR := hid fun w => root_Sqrt lf w (by omega) (by omega)
      generalize rootP lf = rr at *
      have ur : IntKind.i32.wrap rr = rr := IntWalk.i32_in _ (by omega)
      obtain ⟨old, hold⟩ : ∃ old, cs[b]? = some old := ⟨cs[b], by simp⟩
      have r0 : W.cell? ⟨gp + 1, b, none⟩ = some old := (g3.cell b).trans hold
      have r1 := g3.frozen b
      have k1 : (0 : Int) ≤ (b : Int) := by omega
      have k2 : (b : Int) < 4 := by omega
      go_wp2_with fail
      refine (HR.out _).mono ?_
      rintro e W' ⟨rfl, rfl⟩
      go_upto_region 16 with fail
      have g3' := g3.set_ b (.int .i32 rr)
      rw [hxx] at g3'
      replace g5 := g5.far (p := ⟨gp + 1, b, none⟩) (by simp <;> omega) (.int .i32 rr)
      replace g6 := g6.far (p := ⟨gp + 1, b, none⟩) (by simp <;> omega) (.int .i32 rr)
      replace g7 := g7.setCell (p := ⟨gp + 1, b, none⟩) (by simp <;> omega) (.int .i32 rr)
      replace hK : (W.setCell ⟨gp + 1, b, none⟩ (.int .i32 rr)).heap[D]? = some (.deferred (some [])) := (Below.heap_setCell _ _ _ D (by simp <;> omega)).trans hK
      clear r0 r1 c0 c1 c2 c3 z0 z1 z2 z3 d0 y0 q0 g1 g2 g3 g4 g9 hold
      generalize W.setCell ⟨gp + 1, b, none⟩ (.int .i32 rr) = V at *
      have c0 : V.cell? ⟨w.heap.size, 0, none⟩ = some (.int .i32 0) := g5.cell 0
      have c1 : V.cell? ⟨w.heap.size, 1, none⟩ = some (.int .i32 0) := g5.cell 1
      have c2 : V.cell? ⟨w.heap.size, 2, none⟩ = some (.int .i32 0) := g5.cell 2
      have c3 : V.cell? ⟨w.heap.size, 3, none⟩ = some (.int .i32 0) := g5.cell 3
      have z0 := g5.frozen 0
      have z1 := g5.frozen 1
      have z2 := g5.frozen 2
      have z3 := g5.frozen 3
      have d0 : V.cell? ⟨w.heap.size + 1, 0, none⟩ = some (.bool false) := g6.cell 0
      have y0 := g6.frozen 0
      have v0 : V.cell? ⟨gp + 1, 0, none⟩ = some (.int .i32 x0) := g3'.cell 0
      have v1 : V.cell? ⟨gp + 1, 1, none⟩ = some (.int .i32 x1) := g3'.cell 1
      have v2 : V.cell? ⟨gp + 1, 2, none⟩ = some (.int .i32 x2) := g3'.cell 2
      have v3 : V.cell? ⟨gp + 1, 3, none⟩ = some (.int .i32 x3) := g3'.cell 3
      clear g3' hxx
      go_wp2_with fail
      have G5 : Blk (((((V.setCell ⟨w.heap.size, 0, none⟩ (.int .i32 x0)).setCell ⟨w.heap.size, 1, none⟩ (.int .i32 x1)).setCell ⟨w.heap.size, 2, none⟩ (.int .i32 x2)).setCell ⟨w.heap.size, 3, none⟩ (.int .i32 x3)).setCell ⟨w.heap.size + 1, 0, none⟩ (.bool true)) w.heap.size 23 #[.int .i32 x0, .int .i32 x1, .int .i32 x2, .int .i32 x3] := by
        have := ((((g5.set_ 0 (.int .i32 x0)).set_ 1 (.int .i32 x1)).set_ 2 (.int .i32 x2)).set_ 3 (.int .i32 x3)).far (p := ⟨w.heap.size + 1, 0, none⟩) (by simp) (.bool true)
        simpa using this
      have G6 : Blk (((((V.setCell ⟨w.heap.size, 0, none⟩ (.int .i32 x0)).setCell ⟨w.heap.size, 1, none⟩ (.int .i32 x1)).setCell ⟨w.heap.size, 2, none⟩ (.int .i32 x2)).setCell ⟨w.heap.size, 3, none⟩ (.int .i32 x3)).setCell ⟨w.heap.size + 1, 0, none⟩ (.bool true)) (w.heap.size + 1) 4 #[.bool true] := by
        have := ((((g6.far (p := ⟨w.heap.size, 0, none⟩) (by simp) (.int .i32 x0)).far (p := ⟨w.heap.size, 1, none⟩) (by simp) (.int .i32 x1)).far (p := ⟨w.heap.size, 2, none⟩) (by simp) (.int .i32 x2)).far (p := ⟨w.heap.size, 3, none⟩) (by simp) (.int .i32 x3)).set_ 0 (.bool true)
        simpa using this
      have hK2 : (((((V.setCell ⟨w.heap.size, 0, none⟩ (.int .i32 x0)).setCell ⟨w.heap.size, 1, none⟩ (.int .i32 x1)).setCell ⟨w.heap.size, 2, none⟩ (.int .i32 x2)).setCell ⟨w.heap.size, 3, none⟩ (.int .i32 x3)).setCell ⟨w.heap.size + 1, 0, none⟩ (.bool true)).heap[D]? = some (.deferred (some [])) := by
        rw [Below.heap_setCell _ _ _ D (by simp; omega), Below.heap_setCell _ _ _ D (by simp; omega), Below.heap_setCell _ _ _ D (by simp; omega), Below.heap_setCell _ _ _ D (by simp; omega), Below.heap_setCell _ _ _ D (by simp; omega)]
        exact hK
      have G7 : Below w.heap.size w (((((V.setCell ⟨w.heap.size, 0, none⟩ (.int .i32 x0)).setCell ⟨w.heap.size, 1, none⟩ (.int .i32 x1)).setCell ⟨w.heap.size, 2, none⟩ (.int .i32 x2)).setCell ⟨w.heap.size, 3, none⟩ (.int .i32 x3)).setCell ⟨w.heap.size + 1, 0, none⟩ (.bool true)) :=
        ((((g7.setCell (by simp) _).setCell (by simp) _).setCell (by simp) _).setCell (by simp) _).setCell (by simp) _
      generalize ((((V.setCell ⟨w.heap.size, 0, none⟩ (.int .i32 x0)).setCell ⟨w.heap.size, 1, none⟩ (.int .i32 x1)).setCell ⟨w.heap.size, 2, none⟩ (.int .i32 x2)).setCell ⟨w.heap.size, 3, none⟩ (.int .i32 x3)).setCell ⟨w.heap.size + 1, 0, none⟩ (.bool true) = WE at *
      refine ⟨by simp, .inl ⟨_, _, rfl, run_takeDeferred hK2, ?_⟩⟩
      have hb := belowK_b (n₀ := w.heap.size + 2) (w := W5) (by omega) WE D _ (.deferred none) hD hK2 rfl rfl
      refine ⟨_, results_qb _ _ w.heap.size (w.heap.size + 1) _ true rfl rfl (G5.below hb (by omega)) rfl (G6.below hb (by omega)), ?_, G7.trans (hb.mono (by omega))⟩
      rw [(HV.out (by omega)).1, (HV.out (by omega)).2]
end Go.Proofs.Ytfogjfmpgfcolaa
