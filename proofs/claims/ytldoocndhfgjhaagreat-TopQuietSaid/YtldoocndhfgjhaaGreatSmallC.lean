/- Chapter 12: small.Pack. -/
import Derived.Test.YtldoocndhfgjhaaGreatSmallB
import Derived.Test.YtldoocndhfgjhaaGreatOwn
import Derived.Test.YtldoocndhfgjhaaGreatLate
import Derived.Test.YtldoocndhfgjhaaGreatBits
import Derived.Test.YtldoocndhfgjhaaGreatBitsJ
import Derived.Shelf.Abstract
import Derived.Shelf.RegionOpen
namespace Go.Proofs.YtldoocndhfgjhaaGreat
open Go.RowKit
set_option linter.unusedVariables false
set_option linter.unusedSimpArgs false
attribute [local go_sem] Oper.semAt_some

theorem own_one {k : IntKind} {w : World} {base g : Nat} {e : TypeId} {x : Int} (h : Blk w g e #[.int k x]) (hb : base ≤ g) : Own k w base e (some ⟨g, 0, none⟩) 1 1 [x] :=
  ⟨rfl, .inr ⟨g, 1, #[.int k x], rfl, hb, h, Nat.le_refl _, by unfold maxLen; omega, rfl, rfl⟩⟩
theorem Own.from_ {k : IntKind} {A B : World} {base : Nat} {e : TypeId} {X : Option Addr} {n c : Nat} {ys : List Int} {row : Option Nat} {m : Nat} (h : Own k A base e X n c ys) (hg : A.grownBy B row) (hr : ∀ r, row = some r → m ≤ r ∧ ∃ o : Obj, A.heap[r]? = some o ∧ o.isCells = false) : Own k B base e X n c ys := by
  refine h.kept hg ?_
  rcases h.2 with ⟨hv, _⟩ | ⟨g, cap, cur, hv, _, hh, _⟩
  · left; rw [hv]; rfl
  · right
    rw [hv]
    intro e2
    obtain ⟨_, o, ho, hc⟩ := hr g e2.symm
    rw [hh] at ho
    cases ho
    cases hc
theorem infoU32 : (Tryz.prog.info? 101).map (fun i => (i.zero, i.size, i.bytes)) = some (some (.int .u32 0), 1, 4) := by kernel_rfl
def lAt (q0 q1 q2 q3 : Int) (i : Nat) : Int := [q0, q1, q2, q3][i]?.getD 0
def packL (q0 q1 q2 q3 : Int) (b : Nat) (pre : List K3) : List Int := (b : Int) :: pre.map (fun k => numP (sgnX (lAt q0 q1 q2 q3 b) (lAt q0 q1 q2 q3 (oth b k.1))))
theorem packL_in (q0 q1 q2 q3 : Int) (b : Nat) (pre : List K3) (hb : b < 4) : ∀ x ∈ packL q0 q1 q2 q3 b pre, 0 ≤ x ∧ x ≤ 4294967295 := by
  intro x hx
  unfold packL at hx
  rcases List.mem_cons.1 hx with rfl | hx
  · omega
  · obtain ⟨k, _, rfl⟩ := List.mem_map.1 hx
    have := num_bd (sgnX (lAt q0 q1 q2 q3 b) (lAt q0 q1 q2 q3 (oth b k.1)))
    omega
set_option maxRecDepth 20000 in
set_option maxHeartbeats 8000000 in
theorem s_Pack (q0 q1 q2 q3 : Int) (w : World) (iq0 : I32 q0) (iq1 : I32 q1) (iq2 : I32 q2) (iq3 : I32 q3) (hu : isP (sqP [q0, q1, q2, q3]) = true) :
    Calls Tryz.prog 129 #[.agg #[.int .i32 q0, .int .i32 q1, .int .i32 q2, .int .i32 q3]] w fun e w' => e = .returned (.tuple #[.int .u32 (joinV widL (packL q0 q1 q2 q3 (farI q0 q1 q2 q3) (upK 3))), .bool (joinB widL (packL q0 q1 q2 q3 (farI q0 q1 q2 q3) (upK 3)))]) ∧ Below w.heap.size w w' := by
  have hmf : ∀ (fn : Fn) (first cap : Array Value) (w : World), (Instr.makeFunc fn first cap).run Tryz.prog w = .ok (.func fn first cap) w := fun _ _ _ _ => rfl
  have HU := hid fun w => u_Is q0 q1 q2 q3 w iq0 iq1 iq2 iq3
  rw [hu] at HU
  have HF := hid fun w => s_farthest q0 q1 q2 q3 w iq0 iq1 iq2 iq3
  have HO := hid s_others
  obtain ⟨i0, hi0, hz0, hz1, hz2⟩ := info_parts infoU32
  have hb4 := far_lt q0 q1 q2 q3
  have HW := hid s_widths
  have hpk := packL_in q0 q1 q2 q3 (farI q0 q1 q2 q3) (upK 3) hb4
  have HJ := hid fun (w : World) X c gw (hw : Row .i64 w w.heap.size (some ⟨gw, 0, none⟩) 4 widL) (hl : Row .u32 w w.heap.size X 4 (packL q0 q1 q2 q3 (farI q0 q1 q2 q3) (upK 3))) =>
    b_Join (some ⟨gw, 0, none⟩) 4 4 widL X 4 c (packL q0 q1 q2 q3 (farI q0 q1 q2 q3) (upK 3)) w hw (by decide) (by omega) hl hpk (by omega)
  clear hpk
  generalize farI q0 q1 q2 q3 = b at *
  refine callsIn_wide.1 (callsIn_of_wp_marks (n := 3) Tryz.func129 rfl trivial ?_ rfl)
  simp only [Tryz.ntmps129, List.size_toArray, List.length_cons, List.length_nil, Nat.reduceAdd, Nat.reduceSub, Array.replicate_succ, Array.replicate_zero, List.push_toArray, List.append_toArray, List.nil_append, List.cons_append]
  refine wpIn_wide.2 ?_
  have hq := Blk.new w 79 #[.int .i32 q0, .int .i32 q1, .int .i32 q2, .int .i32 q3]
  have hB := (Below.refl w.heap.size w).alloc (Nat.le_refl _) (.cells #[.int .i32 q0, .int .i32 q1, .int .i32 q2, .int .i32 q3] 79)
  have f0 : (w.alloc (.cells #[.int .i32 q0, .int .i32 q1, .int .i32 q2, .int .i32 q3] 79)).cell? ⟨w.heap.size, 0, none⟩ = some (.int .i32 q0) := hq.cell 0
  have f1 : (w.alloc (.cells #[.int .i32 q0, .int .i32 q1, .int .i32 q2, .int .i32 q3] 79)).cell? ⟨w.heap.size, 1, none⟩ = some (.int .i32 q1) := hq.cell 1
  have f2 : (w.alloc (.cells #[.int .i32 q0, .int .i32 q1, .int .i32 q2, .int .i32 q3] 79)).cell? ⟨w.heap.size, 2, none⟩ = some (.int .i32 q2) := hq.cell 2
  have f3 : (w.alloc (.cells #[.int .i32 q0, .int .i32 q1, .int .i32 q2, .int .i32 q3] 79)).cell? ⟨w.heap.size, 3, none⟩ = some (.int .i32 q3) := hq.cell 3
  go_wp2_with fail
  clear f0 f1 f2 f3
  generalize w.alloc (.cells #[.int .i32 q0, .int .i32 q1, .int .i32 q2, .int .i32 q3] 79) = W0 at *
  refine (HU.out _).mono ?_
  rintro e w1 ⟨rfl, b1⟩
  replace hq := hq.below b1 hq.lt
  replace hB := hB.trans (b1.mono hB.size)
  have f0 : w1.cell? ⟨w.heap.size, 0, none⟩ = some (.int .i32 q0) := hq.cell 0
  have f1 : w1.cell? ⟨w.heap.size, 1, none⟩ = some (.int .i32 q1) := hq.cell 1
  have f2 : w1.cell? ⟨w.heap.size, 2, none⟩ = some (.int .i32 q2) := hq.cell 2
  have f3 : w1.cell? ⟨w.heap.size, 3, none⟩ = some (.int .i32 q3) := hq.cell 3
  go_wp2_with fail
  clear f0 f1 f2 f3 hq
  have hL := Blk.new w1 323 #[.int .i32 q0, .int .i32 q1, .int .i32 q2, .int .i32 q3]
  replace hB := hB.alloc hB.size (.cells #[.int .i32 q0, .int .i32 q1, .int .i32 q2, .int .i32 q3] 323)
  have hgl := hB.size
  generalize w1.alloc (.cells #[.int .i32 q0, .int .i32 q1, .int .i32 q2, .int .i32 q3] 323) = W1 at *
  generalize w1.heap.size = gl at *
  refine (HF.out _).mono ?_
  rintro e w2 ⟨rfl, b2⟩
  replace hL := hL.below b2 hL.lt
  replace hB := hB.trans (b2.mono hB.size)
  have ub : IntKind.u32.wrap (b : Int) = (b : Int) := by simp [IntKind.wrap_u32]; omega
  go_wp2_with fail
  have e1 := Blk.new w2 3 #[.int .i64 b]
  have e2 := Blk.new (w2.alloc (.cells #[.int .i64 b] 3)) 325 #[.func (.func 172) #[] #[.pointer (some ⟨gl, 0, none⟩), .pointer (some ⟨w2.heap.size, 0, none⟩)]]
  have e3 := Blk.new ((w2.alloc (.cells #[.int .i64 b] 3)).alloc (.cells #[.func (.func 172) #[] #[.pointer (some ⟨gl, 0, none⟩), .pointer (some ⟨w2.heap.size, 0, none⟩)]] 325)) 101 #[.int .u32 b]
  have e4 := Blk.new (((w2.alloc (.cells #[.int .i64 b] 3)).alloc (.cells #[.func (.func 172) #[] #[.pointer (some ⟨gl, 0, none⟩), .pointer (some ⟨w2.heap.size, 0, none⟩)]] 325)).alloc (.cells #[.int .u32 b] 101)) 326 #[.slice (some ⟨w2.heap.size + 1 + 1, 0, none⟩) 1 1]
  simp only [World.size_alloc] at e2 e3 e4
  replace e1 := ((e1.alloc (.cells #[.func (.func 172) #[] #[.pointer (some ⟨gl, 0, none⟩), .pointer (some ⟨w2.heap.size, 0, none⟩)]] 325)).alloc (.cells #[.int .u32 b] 101)).alloc (.cells #[.slice (some ⟨w2.heap.size + 1 + 1, 0, none⟩) 1 1] 326)
  replace e2 := (e2.alloc (.cells #[.int .u32 b] 101)).alloc (.cells #[.slice (some ⟨w2.heap.size + 1 + 1, 0, none⟩) 1 1] 326)
  replace e3 := e3.alloc (.cells #[.slice (some ⟨w2.heap.size + 1 + 1, 0, none⟩) 1 1] 326)
  have hsz := hB.size
  have hglt := hL.lt
  replace hL := (((hL.alloc (.cells #[.int .i64 b] 3)).alloc (.cells #[.func (.func 172) #[] #[.pointer (some ⟨gl, 0, none⟩), .pointer (some ⟨w2.heap.size, 0, none⟩)]] 325)).alloc (.cells #[.int .u32 b] 101)).alloc (.cells #[.slice (some ⟨w2.heap.size + 1 + 1, 0, none⟩) 1 1] 326)
  replace hB := (((hB.alloc (by omega) (.cells #[.int .i64 b] 3)).alloc (by simp; omega) (.cells #[.func (.func 172) #[] #[.pointer (some ⟨gl, 0, none⟩), .pointer (some ⟨w2.heap.size, 0, none⟩)]] 325)).alloc (by simp; omega) (.cells #[.int .u32 b] 101)).alloc (by simp; omega) (.cells #[.slice (some ⟨w2.heap.size + 1 + 1, 0, none⟩) 1 1] 326)
  have hS3 : ((((w2.alloc (.cells #[.int .i64 b] 3)).alloc (.cells #[.func (.func 172) #[] #[.pointer (some ⟨gl, 0, none⟩), .pointer (some ⟨w2.heap.size, 0, none⟩)]] 325)).alloc (.cells #[.int .u32 b] 101)).alloc (.cells #[.slice (some ⟨w2.heap.size + 1 + 1, 0, none⟩) 1 1] 326)).heap.size = w2.heap.size + 4 := by simp
  generalize (((w2.alloc (.cells #[.int .i64 b] 3)).alloc (.cells #[.func (.func 172) #[] #[.pointer (some ⟨gl, 0, none⟩), .pointer (some ⟨w2.heap.size, 0, none⟩)]] 325)).alloc (.cells #[.int .u32 b] 101)).alloc (.cells #[.slice (some ⟨w2.heap.size + 1 + 1, 0, none⟩) 1 1] 326) = W3 at *
  generalize w2.heap.size = h at *
  have hO3 : Own .u32 W3 w.heap.size 101 (some ⟨h + 1 + 1, 0, none⟩) 1 1 [(b : Int)] := own_one e3 (by omega)
  clear e3 b2
  refine (HO.out b W3).mono ?_
  rintro e w4 ⟨rfl, rfl⟩
  go_wp2_with fail
  have e5 := Blk.new W3 3 #[.int .i64 b]
  have hW3 := hB.size
  replace e1 := e1.alloc (.cells #[.int .i64 b] 3)
  replace e2 := e2.alloc (.cells #[.int .i64 b] 3)
  replace e4 := e4.alloc (.cells #[.int .i64 b] 3)
  replace hL := hL.alloc (.cells #[.int .i64 b] 3)
  replace hO3 := hO3.alloc (.cells #[.int .i64 b] 3)
  replace hB := hB.alloc hB.size (.cells #[.int .i64 b] 3)
  have hS4 : (W3.alloc (.cells #[.int .i64 b] 3)).heap.size = h + 5 := by simp [hS3]
  rw [hS3] at e5
  generalize hW4 : W3.alloc (.cells #[.int .i64 b] 3) = W4 at *
  clear hW4
  refine range_wide (gf := 203) (lb := #[.pointer (some ⟨h + 4, 0, none⟩)]) (encs := encO b) (Kp := KeepsB (h + 4)) (S := fun ys => ys = upK 3) (Sp := fun pre => ∃ k, k ≤ 3 ∧ pre = upK k) (N := 3) (w0 := W4) ?hg (enters_of Tryz.func203 (by kernel_rfl) rfl) (others_stops 2 (h + 4) b hb4 W4 e5) keepsB_t (keepsB_b (by omega)) (Below.refl _ _) (fun _ => rfl)
    (fun pre W => ∃ A c, Blk W (h + 1 + 1 + 1) 326 #[.slice A (pre.length + 1) c] ∧ Own .u32 W w.heap.size 101 A (pre.length + 1) c (packL q0 q1 q2 q3 b pre) ∧ Blk W gl 323 #[.int .i32 q0, .int .i32 q1, .int .i32 q2, .int .i32 q3] ∧ Blk W h 3 #[.int .i64 b] ∧ Blk W (h + 1) 325 #[.func (.func 172) #[] #[.pointer (some ⟨gl, 0, none⟩), .pointer (some ⟨h, 0, none⟩)]] ∧ Below w.heap.size w W ∧ h + 5 ≤ W.heap.size ∧ Blk W (h + 4) 3 #[.int .i64 b])
    (fun _ _ _ => False) ?hI (fun _ _ _ _ _ hs _ _ => hs) ⟨some ⟨h + 1 + 1, 0, none⟩, 1, e4, hO3, hL, e1, e2, hB, by omega, e5⟩ (fun x => { tmps := #[.agg #[.int .i32 q0, .int .i32 q1, .int .i32 q2, .int .i32 q3], .pointer (some ⟨w.heap.size, 0, none⟩), .int .u32 0, .bool false, .pointer (some ⟨gl, 0, none⟩), .pointer (some ⟨h, 0, none⟩), .pointer (some ⟨h + 1, 0, none⟩), .pointer (some ⟨h + 1 + 1 + 1, 0, none⟩), undef, .int .i64 (oth b x.1 : Int), .agg #[.int .i32 q0, .int .i32 q1, .int .i32 q2, .int .i32 q3], .bool true, .bool false, .pointer (some ⟨w.heap.size, 0, none⟩), .int .i32 q0, .pointer (some ⟨w.heap.size, 1, none⟩), .int .i32 q1, .pointer (some ⟨w.heap.size, 2, none⟩), .int .i32 q2, .pointer (some ⟨w.heap.size, 3, none⟩), .int .i32 q3, .agg #[.int .i32 q0, .int .i32 q1, .int .i32 q2, .int .i32 q3], .agg #[.int .i32 q0, .int .i32 q1, .int .i32 q2, .int .i32 q3], .int .i64 b, .func (.func 172) #[] #[.pointer (some ⟨gl, 0, none⟩), .pointer (some ⟨h, 0, none⟩)], .int .i64 b, .int .u32 b, .slice (some ⟨h + 1 + 1, 0, none⟩) 1 1, .int .i64 b, .func (.func 203) #[] #[.pointer (some ⟨h + 4, 0, none⟩)], .int .i64 (x.1 : Int), .int .i64 (oth b x.1 : Int), undef, undef, undef, undef, undef, undef, undef, undef, undef, undef, undef, undef, undef, undef], defers := [] }) ?assign ?body ?done ?stop
  case hg => rfl
  case hI =>
    rintro pre A B row ⟨X, c, h1, h2, h3, h4, h5, h6, h7, h8⟩ hg hr
    have hs : A.heap.size ≤ B.heap.size := hg.size
    refine ⟨X, c, h1.ownFrom hg hr, h2.from_ hg hr, h3.ownFrom hg hr, h4.ownFrom hg hr, h5.ownFrom hg hr, h6.grown hg h6.size ?_, by omega, h8.ownFrom hg hr⟩
    intro k e
    obtain ⟨hk, _⟩ := hr k e
    have := hB.size
    omega
  case assign =>
    intro l x W K hK
    simp only [encO]
    gi_wp2
    exact hK
  case stop =>
    rintro D c pre W _ _ hh _
    exact hh.elim
  case body =>
    rintro l pre ⟨k, hk3⟩ W ⟨X, c, g1, g2, g3, g4, g5, g6, g7, g9⟩ hpl
    have e5W := hid (show W.heap[h + 4]? = some (.cells #[.int .i64 b] 3 (0, 0)) from g9)
    clear g9
    dsimp only
    have ho4 : oth b k < 4 := by unfold oth; split <;> omega
    obtain ⟨i, hi⟩ : ∃ i, oth b k = i := ⟨_, rfl⟩
    obtain ⟨y, hy⟩ : ∃ y, lAt q0 q1 q2 q3 (oth b k) = y := ⟨_, rfl⟩
    obtain ⟨yb, hyb⟩ : ∃ y, lAt q0 q1 q2 q3 b = y := ⟨_, rfl⟩
    have hl4 : ∀ j, j < 4 → #[Value.int .i32 q0, Value.int .i32 q1, Value.int .i32 q2, Value.int .i32 q3][j]? = some (.int .i32 (lAt q0 q1 q2 q3 j)) ∧ I32 (lAt q0 q1 q2 q3 j) := by
      intro j hj
      obtain rfl | rfl | rfl | rfl : j = 0 ∨ j = 1 ∨ j = 2 ∨ j = 3 := by omega
      · exact ⟨rfl, iq0⟩
      · exact ⟨rfl, iq1⟩
      · exact ⟨rfl, iq2⟩
      · exact ⟨rfl, iq3⟩
    have iy : I32 y := by rw [← hy]; exact (hl4 _ ho4).2
    have cy : #[Value.int .i32 q0, Value.int .i32 q1, Value.int .i32 q2, Value.int .i32 q3][i]? = some (.int .i32 y) := by rw [← hy, hi]; exact (hl4 _ (by omega)).1
    have cb : #[Value.int .i32 q0, Value.int .i32 q1, Value.int .i32 q2, Value.int .i32 q3][b]? = some (.int .i32 yb) := by rw [← hyb]; exact (hl4 _ hb4).1
    have HPK : Hid (packL q0 q1 q2 q3 b (pre ++ [⟨k, hk3⟩]) = packL q0 q1 q2 q3 b pre ++ [numP (sgnX yb y)]) := hid (by simp only [packL, List.map_append, List.map_cons, List.map_nil, hy, hyb, List.cons_append])
    rw [hi] at ho4 ⊢
    have k1 : (0 : Int) ≤ (i : Int) := by omega
    have k2 : (i : Int) < 4 := by omega
    have HLN : Hid ((pre ++ [(⟨k, hk3⟩ : K3)]).length = pre.length + 1) := hid (by simp)
    generalize hpp : pre ++ [(⟨k, hk3⟩ : K3)] = pre' at *
    clear hpp hi hy hyb hl4
    generalize hls : packL q0 q1 q2 q3 b pre = ls at *
    clear hls
    generalize hnn : pre.length = nn at *
    clear hnn
    have sb : -2147483648 ≤ sgnX yb y ∧ sgnX yb y ≤ 2147483648 := by unfold sgnX; unfold I32 at iy; split <;> omega
    have HN := hid fun w => s_number (sgnX yb y) w sb
    have HC := hid fun w (hc : w.cell? ⟨gl, b, none⟩ = some (.int .i32 yb)) (hB : Blk w h 3 #[.int .i64 b]) => c_signed gl h b q0 q1 q2 q3 yb y w hb4 iy hc hB
    generalize sgnX yb y = sx at *
    clear sb
    gi_wp2_with fail
    refine late_inRound 9 (S := fun w' => w'.cell? ⟨h + 1 + 1 + 1, 0, none⟩ = some (.slice X (nn + 1) c) ∧ w'.cell? ⟨h + 1, 0, none⟩ = some (.func (.func 172) #[] #[.pointer (some ⟨gl, 0, none⟩), .pointer (some ⟨h, 0, none⟩)]) ∧ w'.cell? ⟨gl, i, none⟩ = some (.int .i32 y)) ?hq1 (by kernel_rfl) (by kernel_rfl) (fun hHeld => ?_) ?hs1
    case hq1 => rintro ⟨a, w, hh⟩; exact hh
    case hs1 => exact ⟨g1.cell 0, g5.cell 0, (g3.cell i).trans cy⟩
    refine (show wpAnyE _ _ _ _ _ _ 10 _ _ _ from ?_)
    try (simp only [Act.put, List.setIfInBounds_toArray, List.set_cons_zero, List.set_cons_succ])
    have ko : KeepsOthers W W.drew := KeepsOthers.drew W
    have kb : KeepsB (h + 4) W W.drew := rfl
    replace g1 := g1.drew
    replace g2 := g2.drew
    replace g3 := g3.drew
    replace g4 := g4.drew
    replace g5 := g5.drew
    replace g6 := g6.drew
    replace g7 : h + 5 ≤ W.drew.heap.size := g7
    generalize W.drew = V0 at *
    refine tkE 0 hHeld ?_
    refine tkE 1 hHeld ?_
    refine tkE 2 hHeld ?_
    refine tkE 3 hHeld ?_
    refine tkE 4 hHeld ?_
    refine rdE 5 (fun KK hKK => ?_)
    go_simp
    refine (HC.out _ ((g3.cell b).trans cb) g4).mono ?_
    rintro e w' ⟨rfl, rfl⟩
    go_wp2_with fail
    refine hKK.out _ _ ⟨g1.cell 0, g5.cell 0, (g3.cell i).trans cy⟩ (fun hHeld => ?_)
    clear hKK KK
    try (simp only [Act.put, List.setIfInBounds_toArray, List.set_cons_zero, List.set_cons_succ])
    refine rdE 6 (fun KK hKK => ?_)
    go_simp
    refine (HN.out _).mono ?_
    rintro e V1 ⟨rfl, b6⟩
    go_wp2_with fail
    replace ko := ko.trans (KeepsOthers.of_grownBy (row := none) ⟨b6.os, b6.tape, b6.output, b6.size, fun k hk _ => b6.block k hk⟩ (fun j o e => by cases e))
    replace kb : KeepsB (h + 4) W V1 := (b6.block (h + 4) (by omega)).trans kb
    replace g1 := g1.below b6 g1.lt
    replace g3 := g3.below b6 g3.lt
    replace g4 := g4.below b6 g4.lt
    replace g5 := g5.below b6 g5.lt
    replace g2 := g2.below b6 (Nat.le_refl _)
    replace g6 := g6.trans (b6.mono g6.size)
    replace g7 : h + 5 ≤ V1.heap.size := Nat.le_trans g7 b6.size
    clear b6
    refine hKK.out _ _ ⟨g1.cell 0, g5.cell 0, (g3.cell i).trans cy⟩ (fun hHeld => ?_)
    clear hKK KK
    try (simp only [Act.put, List.setIfInBounds_toArray, List.set_cons_zero, List.set_cons_succ])
    refine rdE 7 (fun KK hKK => ?_)
    go_simp
    try go_wp2_with fail
    have gn := Blk.new V1 101 #[.int .u32 (numP sx)]
    replace ko := ko.trans (KeepsOthers.alloc V1 (.cells #[.int .u32 (numP sx)] 101))
    replace kb : KeepsB (h + 4) W (V1.alloc (.cells #[.int .u32 (numP sx)] 101)) := (Below.heap_alloc V1 _ (h + 4) (by omega)).trans kb
    replace g1 := g1.alloc (.cells #[.int .u32 (numP sx)] 101)
    replace g2 := g2.alloc (.cells #[.int .u32 (numP sx)] 101)
    replace g3 := g3.alloc (.cells #[.int .u32 (numP sx)] 101)
    replace g4 := g4.alloc (.cells #[.int .u32 (numP sx)] 101)
    replace g5 := g5.alloc (.cells #[.int .u32 (numP sx)] 101)
    replace g6 := g6.alloc g6.size (.cells #[.int .u32 (numP sx)] 101)
    have g8 : h + 5 ≤ (V1.alloc (.cells #[.int .u32 (numP sx)] 101)).heap.size := by simp; omega
    generalize V1.alloc (.cells #[.int .u32 (numP sx)] 101) = V2 at *
    generalize V1.heap.size = gn1 at *
    refine hKK.out _ _ ⟨g1.cell 0, g5.cell 0, (g3.cell i).trans cy⟩ (fun hHeld => ?_)
    clear hKK KK
    try (simp only [Act.put, List.setIfInBounds_toArray, List.set_cons_zero, List.set_cons_succ])
    refine rdE 8 (fun KK hKK => ?_)
    rw [if_pos (by kernel_rfl)]
    refine wp_app (.tmp 32) (.tmp 39) _ rfl w.heap.size 101 i0 0 4 Tryz.underlying326 hi0 hz0 hz1 hz2 X (nn + 1) c ls rfl g2 (gn1 + 1) (some ⟨gn1, 0, none⟩) 1 1 [numP sx] rfl (Row.blk gn rfl (by omega)) (by unfold maxLen; omega) (by omega) g6.size ?_
    intro X2 c2 V3 go3 gg3
    have hne : ∀ {g t cs}, Blk V2 g t cs → 101 ≠ t → some g ≠ (Value.slice X (nn + 1) c).ownBlock := fun hb ht => Own.ne_ g2 hb ht
    replace ko := ko.trans (KeepsOthers.of_grownBy gg3 (fun j o e ho => by
      rcases g2.2 with ⟨hv, _⟩ | ⟨g', cap, cur, hv, _, hh, _⟩
      · rw [hv] at e; cases e
      · rw [hv] at e
        have e2 : g' = j := by simpa [Value.ownBlock] using e
        subst e2
        rw [hh] at ho
        cases ho
        rfl))
    have kbb : some (h + 4) ≠ (Value.slice X (nn + 1) c).ownBlock := by
      have h5 : Blk V2 (h + 4) 3 #[.int .i64 b] := (show V2.heap[h + 4]? = _ from kb).trans (e5W.out)
      exact hne h5 (by decide)
    replace kb : KeepsB (h + 4) W V3 := (gg3.block (h + 4) (by omega) kbb).trans kb
    have q1 := hne g1 (by decide)
    have q3 := hne g3 (by decide)
    have q4 := hne g4 (by decide)
    have q5 := hne g5 (by decide)
    replace g6 := own_below g6 g2 gg3 g6.size
    replace g1 := g1.grown gg3 q1
    replace g3 := g3.grown gg3 q3
    replace g4 := g4.grown gg3 q4
    replace g5 := g5.grown gg3 q5
    replace g8 : h + 5 ≤ V3.heap.size := Nat.le_trans g8 gg3.size
    clear gg3 g2 gn hne kbb q1 q3 q4 q5
    refine hKK.out _ _ ⟨g1.cell 0, g5.cell 0, (g3.cell i).trans cy⟩ (fun hHeld => ?_)
    clear hKK KK
    try (simp only [Act.put, List.setIfInBounds_toArray, List.set_cons_zero, List.set_cons_succ])
    refine rdLast 9 (fun KK hKK => ?_)
    have z0 := g1.frozen 0
    have y0 : V3.cell? ⟨h + 1 + 1 + 1, 0, none⟩ = some (.slice X (nn + 1) c) := g1.cell 0
    go_simp
    try go_wp2_with fail
    refine hKK.out _ _ ?_
    clear hKK KK hHeld
    refine doneE ?_ (by kernel_rfl) _
    refine (show _ ∧ _ ∧ _ from ⟨ko.trans (KeepsOthers.setCell _ _ _), (Below.heap_setCell V3 _ _ (h + 4) (by simp)).trans kb, X2, c2, ?_, ?_, ?_, ?_, ?_, ?_, ?_, ?_⟩)
    · rw [HLN.out]; exact g1.set_ 0 _
    · rw [HLN.out, HPK.out]; exact go3.setFar g1 (by decide) 0 _
    · exact g3.far (by simp; omega) _
    · exact g4.far (by simp; omega) _
    · exact g5.far (by simp) _
    · exact g6.setCell (by simp; omega) _
    · simp; omega
    · have h5 : Blk V3 (h + 4) 3 #[.int .i64 b] := (show V3.heap[h + 4]? = _ from kb).trans (e5W.out)
      exact h5.far (by simp) _
  case done =>
    rintro D ys W hD rfl ⟨X, c, g1, g2, g3, g4, g5, g6, g7, g9⟩ hK
    go_wp2_with fail
    refine wp_region_noPanic ?_
    refine wp_region_held_drew (S := (fun w' : World => w'.cell? ⟨h + 1 + 1 + 1, 0, none⟩ = some (.slice X 4 c))) (by kernel_rfl) (g1.cell 0) (fun hHeld => ?_)
    refine (show wpAnyH _ _ _ _ _ 7 _ _ _ from ?_)
    try (simp only [Act.put, List.setIfInBounds_toArray, List.set_cons_zero, List.set_cons_succ])
    replace g1 : Blk W.drew (h + 1 + 1 + 1) 326 #[.slice X 4 c] := g1.drew
    replace g2 : Own .u32 W.drew w.heap.size 101 X 4 c (packL q0 q1 q2 q3 b (upK 3)) := g2.drew
    replace g6 := g6.drew
    replace g7 : h + 5 ≤ W.drew.heap.size := g7
    replace hK : W.drew.heap[D]? = some (.deferred (some [])) := hK
    generalize W.drew = V0 at *
    have hDl : D < V0.heap.size := by rcases Nat.lt_or_ge D V0.heap.size with h | h; exact h; rw [Array.getElem?_eq_none h] at hK; cases hK
    refine tk 1 hHeld ?_
    refine rd1 0 (fun KK hKK => ?_)
    go_simp
    refine (HW.out _).mono ?_
    rintro e V1 ⟨rfl, rfl⟩
    go_wp2_with fail
    have gw := Blk.new V0 3 #[.int .i64 2, .int .i64 10, .int .i64 10, .int .i64 10]
    replace hK : (V0.alloc (.cells #[.int .i64 2, .int .i64 10, .int .i64 10, .int .i64 10] 3)).heap[D]? = some (.deferred (some [])) := (Below.heap_alloc V0 _ D hDl).trans hK
    replace g1 := g1.alloc (.cells #[.int .i64 2, .int .i64 10, .int .i64 10, .int .i64 10] 3)
    replace g2 := g2.alloc (.cells #[.int .i64 2, .int .i64 10, .int .i64 10, .int .i64 10] 3)
    replace g6 := g6.alloc g6.size (.cells #[.int .i64 2, .int .i64 10, .int .i64 10, .int .i64 10] 3)
    have hlt : V0.heap.size < (V0.alloc (.cells #[.int .i64 2, .int .i64 10, .int .i64 10, .int .i64 10] 3)).heap.size := by simp
    generalize V0.alloc (.cells #[.int .i64 2, .int .i64 10, .int .i64 10, .int .i64 10] 3) = V1 at *
    generalize V0.heap.size = gwn at *
    refine hKK.out _ _ (g1.cell 0) (fun hHeld => ?_)
    clear hKK KK
    try (simp only [Act.put, List.setIfInBounds_toArray, List.set_cons_zero, List.set_cons_succ])
    refine rd1 2 (fun KK hKK => ?_)
    go_simp
    refine (HJ.out V1 X c gwn (Row.blk (xs := widL) gw rfl hlt) g2.row).mono ?_
    rintro e V2 ⟨rfl, b2⟩
    go_wp2_with fail
    replace g1 := g1.below b2 g1.lt
    replace hK := (b2.block D (by omega)).trans hK
    replace g6 := g6.trans (b2.mono g6.size)
    refine hKK.out _ _ (g1.cell 0) (fun hHeld => ?_)
    clear hKK KK
    try (simp only [Act.put, List.setIfInBounds_toArray, List.set_cons_zero, List.set_cons_succ])
    refine tk 3 hHeld ?_
    refine tk 4 hHeld ?_
    refine tk 5 hHeld ?_
    refine tk 6 hHeld ?_
    refine wpAnyH_done (by kernel_rfl) ?_ _
    refine NoPanic.normal ?_
    go_wp2_with fail
    refine ⟨by simp, .inl ⟨_, _, rfl, run_takeDeferred hK, ?_⟩⟩
    exact ⟨_, results_tmp2 rfl _ _ _, rfl, g6.trans (belowK_b (w := w) (Nat.le_refl _) V2 D _ _ (by omega) hK rfl rfl)⟩
end Go.Proofs.YtldoocndhfgjhaaGreat
