/- Chapter 42: a state and a sample by value, opened and shut. -/
import Derived.Test.YtgmepohfkpncmaaGreatAgg
namespace Go.Proofs.YtgmepohfkpncmaaGreat
open Go.Joins Go.ChangeShapes Go.WideShapes Go.RowKit Go.Deep
set_option linter.unusedVariables false
set_option linter.unusedSimpArgs false
section
variable {H : Type} {enc : TypeId × Value → H} {w : World} {base : Nat} {spare : Nat → Bool} {held : Bool}
theorem array9_ {α : Type} {cs : Array α} (h : cs.size = 9) : ∃ c0 c1 c2 c3 c4 c5 c6 c7 c8, cs = #[c0, c1, c2, c3, c4, c5, c6, c7, c8] := by
  obtain ⟨l⟩ := cs
  match l, h with
  | [c0, c1, c2, c3, c4, c5, c6, c7, c8], _ => exact ⟨c0, c1, c2, c3, c4, c5, c6, c7, c8, rfl⟩
theorem array7_ {α : Type} {cs : Array α} (h : cs.size = 7) : ∃ c0 c1 c2 c3 c4 c5 c6, cs = #[c0, c1, c2, c3, c4, c5, c6] := by
  obtain ⟨l⟩ := cs
  match l, h with
  | [c0, c1, c2, c3, c4, c5, c6], _ => exact ⟨c0, c1, c2, c3, c4, c5, c6, rfl⟩
theorem cells_q : Tryz.prog.cellsOf 23 = 4 := by kernel_rfl
theorem cells_v : Tryz.prog.cellsOf 25 = 3 := by kernel_rfl
theorem cells_i : Tryz.prog.cellsOf 3 = 1 := by kernel_rfl
theorem cells_32 : Tryz.prog.cellsOf 21 = 1 := by kernel_rfl
theorem cells_s : Tryz.prog.cellsOf 27 = 9 := by kernel_rfl
theorem cells_m : Tryz.prog.cellsOf 29 = 7 := by kernel_rfl
theorem trod_vec {n : Nat} {c0 c1 c2 : Value} {y : DataW H × List MemPlace} (h : DataW.trod enc Tryz.prog w base spare held n 25 [c0, c1, c2] = some y) :
    ∃ a0 a1 a2 : Int, c0 = .int .i32 a0 ∧ c1 = .int .i32 a1 ∧ c2 = .int .i32 a2 ∧ y = (.agg [.lit (.int .i32 a0), .lit (.int .i32 a1), .lit (.int .i32 a2)], []) ∧ (Lit.int .i32 a0).wf = true ∧ (Lit.int .i32 a1).wf = true ∧ (Lit.int .i32 a2).wf = true := by
  obtain ⟨y0, y1, y2, m, rfl, _, h0, h1, h2⟩ := trod_struct3 Tryz.underlying25 h
  simp [cells_32] at h0 h1 h2
  obtain ⟨a0, e0, g0, w0⟩ := DataW.trod_int Tryz.underlying21 h0
  obtain ⟨a1, e1, g1, w1⟩ := DataW.trod_int Tryz.underlying21 h1
  obtain ⟨a2, e2, g2, w2⟩ := DataW.trod_int Tryz.underlying21 h2
  simp only [List.cons.injEq, and_true] at e0 e1 e2
  subst g0 g1 g2
  exact ⟨a0, a1, a2, e0, e1, e2, rfl, w0, w1, w2⟩
theorem trod_vec_mk {n : Nat} {a0 a1 a2 : Int} (w0 : (Lit.int .i32 a0).wf = true) (w1 : (Lit.int .i32 a1).wf = true) (w2 : (Lit.int .i32 a2).wf = true) :
    DataW.trod enc Tryz.prog w base spare held (n + 1 + 1) 25 [.int .i32 a0, .int .i32 a1, .int .i32 a2] = some (.agg [.lit (.int .i32 a0), .lit (.int .i32 a1), .lit (.int .i32 a2)], []) := by
  have := trod_struct3_mk (enc := enc) (w := w) (base := base) (spare := spare) (held := held) (n := n + 1) (cs := [.int .i32 a0, .int .i32 a1, .int .i32 a2]) (y0 := (.lit (.int .i32 a0), [])) (y1 := (.lit (.int .i32 a1), [])) (y2 := (.lit (.int .i32 a2), [])) Tryz.underlying25 (by simp [cells_v])
    (by simpa [cells_32] using trod_int_mk n Tryz.underlying21 w0) (by simpa [cells_32] using trod_int_mk n Tryz.underlying21 w1) (by simpa [cells_32] using trod_int_mk n Tryz.underlying21 w2)
  simpa using this
theorem trod_quat {n : Nat} {c0 c1 c2 c3 : Value} {y : DataW H × List MemPlace} (h : DataW.trod enc Tryz.prog w base spare held n 23 [c0, c1, c2, c3] = some y) :
    ∃ a0 a1 a2 a3 : Int, c0 = .int .i32 a0 ∧ c1 = .int .i32 a1 ∧ c2 = .int .i32 a2 ∧ c3 = .int .i32 a3 ∧ y = (.agg [.lit (.int .i32 a0), .lit (.int .i32 a1), .lit (.int .i32 a2), .lit (.int .i32 a3)], []) ∧ (Lit.int .i32 a0).wf = true ∧ (Lit.int .i32 a1).wf = true ∧ (Lit.int .i32 a2).wf = true ∧ (Lit.int .i32 a3).wf = true := by
  obtain ⟨y0, y1, y2, y3, m, rfl, _, h0, h1, h2, h3⟩ := trod_struct4 Tryz.underlying23 h
  simp [cells_32] at h0 h1 h2 h3
  obtain ⟨a0, e0, g0, w0⟩ := DataW.trod_int Tryz.underlying21 h0
  obtain ⟨a1, e1, g1, w1⟩ := DataW.trod_int Tryz.underlying21 h1
  obtain ⟨a2, e2, g2, w2⟩ := DataW.trod_int Tryz.underlying21 h2
  obtain ⟨a3, e3, g3, w3⟩ := DataW.trod_int Tryz.underlying21 h3
  simp only [List.cons.injEq, and_true] at e0 e1 e2 e3
  subst g0 g1 g2 g3
  exact ⟨a0, a1, a2, a3, e0, e1, e2, e3, rfl, w0, w1, w2, w3⟩
theorem trod_quat_mk {n : Nat} {a0 a1 a2 a3 : Int} (w0 : (Lit.int .i32 a0).wf = true) (w1 : (Lit.int .i32 a1).wf = true) (w2 : (Lit.int .i32 a2).wf = true) (w3 : (Lit.int .i32 a3).wf = true) :
    DataW.trod enc Tryz.prog w base spare held (n + 1 + 1) 23 [.int .i32 a0, .int .i32 a1, .int .i32 a2, .int .i32 a3] = some (.agg [.lit (.int .i32 a0), .lit (.int .i32 a1), .lit (.int .i32 a2), .lit (.int .i32 a3)], []) := by
  have := trod_struct4_mk (enc := enc) (w := w) (base := base) (spare := spare) (held := held) (n := n + 1) (cs := [.int .i32 a0, .int .i32 a1, .int .i32 a2, .int .i32 a3]) (y0 := (.lit (.int .i32 a0), [])) (y1 := (.lit (.int .i32 a1), [])) (y2 := (.lit (.int .i32 a2), [])) (y3 := (.lit (.int .i32 a3), [])) Tryz.underlying23 (by simp [cells_q])
    (by simpa [cells_32] using trod_int_mk n Tryz.underlying21 w0) (by simpa [cells_32] using trod_int_mk n Tryz.underlying21 w1) (by simpa [cells_32] using trod_int_mk n Tryz.underlying21 w2) (by simpa [cells_32] using trod_int_mk n Tryz.underlying21 w3)
  simpa using this
set_option maxRecDepth 100000 in
theorem open_state {r : Reach} {h0 : Nat} {v : Value} {dt : DataW H} {p : List MemPlace} (hv : Value.okWide Tryz.prog w r h0 27 v) (h : DataW.Trod enc Tryz.prog w base spare held 27 v dt p) :
    ∃ q0 q1 q2 q3 b0 b1 b2 n c : Int, v = .agg #[.int .i32 q0, .int .i32 q1, .int .i32 q2, .int .i32 q3, .int .i32 b0, .int .i32 b1, .int .i32 b2, .int .i64 n, .int .i64 c] ∧ dt = .agg [.agg [.lit (.int .i32 q0), .lit (.int .i32 q1), .lit (.int .i32 q2), .lit (.int .i32 q3)], .agg [.lit (.int .i32 b0), .lit (.int .i32 b1), .lit (.int .i32 b2)], .lit (.int .i64 n), .lit (.int .i64 c)] ∧ p = [] ∧ (Lit.int .i32 q0).wf = true ∧ (Lit.int .i32 q1).wf = true ∧ (Lit.int .i32 q2).wf = true ∧ (Lit.int .i32 q3).wf = true ∧ (Lit.int .i32 b0).wf = true ∧ (Lit.int .i32 b1).wf = true ∧ (Lit.int .i32 b2).wf = true ∧ (Lit.int .i64 n).wf = true ∧ (Lit.int .i64 c).wf = true := by
  obtain ⟨cs, rfl, hsz⟩ := okWide_struct Tryz.underlying27 hv
  obtain ⟨k0, k1, k2, k3, k4, k5, k6, k7, k8, rfl⟩ := array9_ (hsz.trans cells_s)
  obtain ⟨fuel, hf⟩ := h
  obtain ⟨y0, y1, y2, y3, m, hx, _, h0, h1, h2, h3⟩ := trod_struct4 Tryz.underlying27 hf
  simp [Value.cells, cells_q, cells_v, cells_i] at h0 h1 h2 h3
  obtain ⟨q0, q1, q2, q3, rfl, rfl, rfl, rfl, rfl, a0, a1, a2, a3⟩ := trod_quat h0
  obtain ⟨b0, b1, b2, rfl, rfl, rfl, rfl, a4, a5, a6⟩ := trod_vec h1
  obtain ⟨n, e2, rfl, a7⟩ := DataW.trod_int Tryz.underlying3 h2
  obtain ⟨c, e3, rfl, a8⟩ := DataW.trod_int Tryz.underlying3 h3
  simp only [List.cons.injEq, and_true] at e2 e3
  subst e2 e3
  simp only [Prod.mk.injEq] at hx
  exact ⟨q0, q1, q2, q3, b0, b1, b2, n, c, rfl, hx.1, hx.2, a0, a1, a2, a3, a4, a5, a6, a7, a8⟩
theorem state_mk {q0 q1 q2 q3 b0 b1 b2 n c : Int} (wq0 : (Lit.int .i32 q0).wf = true) (wq1 : (Lit.int .i32 q1).wf = true) (wq2 : (Lit.int .i32 q2).wf = true) (wq3 : (Lit.int .i32 q3).wf = true) (wb0 : (Lit.int .i32 b0).wf = true) (wb1 : (Lit.int .i32 b1).wf = true) (wb2 : (Lit.int .i32 b2).wf = true) (wn : (Lit.int .i64 n).wf = true) (wc : (Lit.int .i64 c).wf = true) : DataW.Trod enc Tryz.prog w base spare held 27 (.agg #[.int .i32 q0, .int .i32 q1, .int .i32 q2, .int .i32 q3, .int .i32 b0, .int .i32 b1, .int .i32 b2, .int .i64 n, .int .i64 c]) (.agg [.agg [.lit (.int .i32 q0), .lit (.int .i32 q1), .lit (.int .i32 q2), .lit (.int .i32 q3)], .agg [.lit (.int .i32 b0), .lit (.int .i32 b1), .lit (.int .i32 b2)], .lit (.int .i64 n), .lit (.int .i64 c)]) [] := by
  have := trod_struct4_mk (enc := enc) (w := w) (base := base) (spare := spare) (held := held) (n := 2) (cs := [.int .i32 q0, .int .i32 q1, .int .i32 q2, .int .i32 q3, .int .i32 b0, .int .i32 b1, .int .i32 b2, .int .i64 n, .int .i64 c]) (y0 := (.agg [.lit (.int .i32 q0), .lit (.int .i32 q1), .lit (.int .i32 q2), .lit (.int .i32 q3)], [])) (y1 := (.agg [.lit (.int .i32 b0), .lit (.int .i32 b1), .lit (.int .i32 b2)], [])) (y2 := (.lit (.int .i64 n), [])) (y3 := (.lit (.int .i64 c), [])) Tryz.underlying27 (by simp [cells_s])
    (by simpa [cells_q] using trod_quat_mk (n := 0) wq0 wq1 wq2 wq3) (by simpa [cells_v] using trod_vec_mk (n := 0) wb0 wb1 wb2) (by simpa [cells_i] using trod_int_mk 1 Tryz.underlying3 wn) (by simpa [cells_i] using trod_int_mk 1 Tryz.underlying3 wc)
  exact ⟨3, by simpa [Value.cells] using this⟩
set_option maxRecDepth 100000 in
theorem open_sample {r : Reach} {h0 : Nat} {v : Value} {dt : DataW H} {p : List MemPlace} (hv : Value.okWide Tryz.prog w r h0 29 v) (h : DataW.Trod enc Tryz.prog w base spare held 29 v dt p) :
    ∃ y0 y1 y2 x0 x1 x2 d : Int, v = .agg #[.int .i32 y0, .int .i32 y1, .int .i32 y2, .int .i32 x0, .int .i32 x1, .int .i32 x2, .int .i32 d] ∧ dt = .agg [.agg [.lit (.int .i32 y0), .lit (.int .i32 y1), .lit (.int .i32 y2)], .agg [.lit (.int .i32 x0), .lit (.int .i32 x1), .lit (.int .i32 x2)], .lit (.int .i32 d)] ∧ p = [] ∧ (Lit.int .i32 y0).wf = true ∧ (Lit.int .i32 y1).wf = true ∧ (Lit.int .i32 y2).wf = true ∧ (Lit.int .i32 x0).wf = true ∧ (Lit.int .i32 x1).wf = true ∧ (Lit.int .i32 x2).wf = true ∧ (Lit.int .i32 d).wf = true := by
  obtain ⟨cs, rfl, hsz⟩ := okWide_struct Tryz.underlying29 hv
  obtain ⟨k0, k1, k2, k3, k4, k5, k6, rfl⟩ := array7_ (hsz.trans cells_m)
  obtain ⟨fuel, hf⟩ := h
  obtain ⟨z0, z1, z2, m, hx, _, h0, h1, h2⟩ := trod_struct3 Tryz.underlying29 hf
  simp [Value.cells, cells_32, cells_v] at h0 h1 h2
  obtain ⟨y0, y1, y2, rfl, rfl, rfl, rfl, a0, a1, a2⟩ := trod_vec h0
  obtain ⟨x0, x1, x2, rfl, rfl, rfl, rfl, a3, a4, a5⟩ := trod_vec h1
  obtain ⟨d, e2, rfl, a6⟩ := DataW.trod_int Tryz.underlying21 h2
  simp only [List.cons.injEq, and_true] at e2
  subst e2
  simp only [Prod.mk.injEq] at hx
  exact ⟨y0, y1, y2, x0, x1, x2, d, rfl, hx.1, hx.2, a0, a1, a2, a3, a4, a5, a6⟩
theorem sample_mk {y0 y1 y2 x0 x1 x2 d : Int} (wy0 : (Lit.int .i32 y0).wf = true) (wy1 : (Lit.int .i32 y1).wf = true) (wy2 : (Lit.int .i32 y2).wf = true) (wx0 : (Lit.int .i32 x0).wf = true) (wx1 : (Lit.int .i32 x1).wf = true) (wx2 : (Lit.int .i32 x2).wf = true) (wd : (Lit.int .i32 d).wf = true) : DataW.Trod enc Tryz.prog w base spare held 29 (.agg #[.int .i32 y0, .int .i32 y1, .int .i32 y2, .int .i32 x0, .int .i32 x1, .int .i32 x2, .int .i32 d]) (.agg [.agg [.lit (.int .i32 y0), .lit (.int .i32 y1), .lit (.int .i32 y2)], .agg [.lit (.int .i32 x0), .lit (.int .i32 x1), .lit (.int .i32 x2)], .lit (.int .i32 d)]) [] := by
  have := trod_struct3_mk (enc := enc) (w := w) (base := base) (spare := spare) (held := held) (n := 2) (cs := [.int .i32 y0, .int .i32 y1, .int .i32 y2, .int .i32 x0, .int .i32 x1, .int .i32 x2, .int .i32 d]) (y0 := (.agg [.lit (.int .i32 y0), .lit (.int .i32 y1), .lit (.int .i32 y2)], [])) (y1 := (.agg [.lit (.int .i32 x0), .lit (.int .i32 x1), .lit (.int .i32 x2)], [])) (y2 := (.lit (.int .i32 d), [])) Tryz.underlying29 (by simp [cells_m])
    (by simpa [cells_v] using trod_vec_mk (n := 0) wy0 wy1 wy2) (by simpa [cells_v] using trod_vec_mk (n := 0) wx0 wx1 wx2) (by simpa [cells_32] using trod_int_mk 1 Tryz.underlying21 wd)
  exact ⟨3, by simpa [Value.cells] using this⟩
end
end Go.Proofs.YtgmepohfkpncmaaGreat
