/- Structs of some fields that are all integers: opened and shut. -/
import Derived.Test.YtgmepohfkpncmaaAid
import Derived.Lib.SmallJoins
import Derived.ChangeSame
namespace Go.Proofs.Ytgmepohfkpncmaa
open Go.Joins Go.ChangeShapes Go.WideShapes Go.RowKit Go.Deep
section
variable {H : Type} {enc : TypeId × Value → H} {P : Program} {w : World} {base : Nat} {spare : Nat → Bool} {held : Bool}
theorem open_ints3 {r : Reach} {b0 : Nat} {t : TypeId} {k : IntKind} {f0 f1 f2 : Field} {v : Value} {d : DataW H} {p : List MemPlace} (hs : P.underlying t = some (.struct #[f0, f1, f2])) (hone : oneCellFields P #[f0, f1, f2] = true) (hC : P.cellsOf t = 3)
    (e0 : P.underlying f0.type = some (.int k)) (e1 : P.underlying f1.type = some (.int k)) (e2 : P.underlying f2.type = some (.int k)) (hv : Value.okWide P w r b0 t v) (h : DataW.Trod enc P w base spare held t v d p) :
    ∃ a0 a1 a2 : Int, v = .agg #[.int k a0, .int k a1, .int k a2] ∧ d = .agg [.lit (.int k a0), .lit (.int k a1), .lit (.int k a2)] ∧ p = [] ∧ (Lit.int k a0).wf = true ∧ (Lit.int k a1).wf = true ∧ (Lit.int k a2).wf = true := by
  obtain ⟨v0, v1, v2, y0, y1, y2, n, rfl, rfl, rfl, t0, t1, t2⟩ := open_agg3 hs hone hC hv h
  obtain ⟨a0, h0, g0, w0⟩ := DataW.trod_int e0 t0
  obtain ⟨a1, h1, g1, w1⟩ := DataW.trod_int e1 t1
  obtain ⟨a2, h2, g2, w2⟩ := DataW.trod_int e2 t2
  simp only [List.cons.injEq, and_true] at h0 h1 h2
  subst h0
  subst g0
  subst h1
  subst g1
  subst h2
  subst g2
  exact ⟨a0, a1, a2, rfl, rfl, rfl, w0, w1, w2⟩
theorem shut_ints3 {t : TypeId} {k : IntKind} {f0 f1 f2 : Field} {a0 a1 a2 : Int} (hs : P.underlying t = some (.struct #[f0, f1, f2])) (hone : oneCellFields P #[f0, f1, f2] = true) (hC : P.cellsOf t = 3)
    (e0 : P.underlying f0.type = some (.int k)) (e1 : P.underlying f1.type = some (.int k)) (e2 : P.underlying f2.type = some (.int k)) (w0 : (Lit.int k a0).wf = true) (w1 : (Lit.int k a1).wf = true) (w2 : (Lit.int k a2).wf = true) :
    DataW.Trod enc P w base spare held t (.agg #[.int k a0, .int k a1, .int k a2]) (.agg [.lit (.int k a0), .lit (.int k a1), .lit (.int k a2)]) [] :=
  shut_agg3 (y0 := (.lit (.int k a0), [])) (y1 := (.lit (.int k a1), [])) (y2 := (.lit (.int k a2), [])) hs hone hC ⟨1, trod_int_mk 0 e0 w0⟩ ⟨1, trod_int_mk 0 e1 w1⟩ ⟨1, trod_int_mk 0 e2 w2⟩
theorem open_ints4 {r : Reach} {b0 : Nat} {t : TypeId} {k : IntKind} {f0 f1 f2 f3 : Field} {v : Value} {d : DataW H} {p : List MemPlace} (hs : P.underlying t = some (.struct #[f0, f1, f2, f3])) (hone : oneCellFields P #[f0, f1, f2, f3] = true) (hC : P.cellsOf t = 4)
    (e0 : P.underlying f0.type = some (.int k)) (e1 : P.underlying f1.type = some (.int k)) (e2 : P.underlying f2.type = some (.int k)) (e3 : P.underlying f3.type = some (.int k)) (hv : Value.okWide P w r b0 t v) (h : DataW.Trod enc P w base spare held t v d p) :
    ∃ a0 a1 a2 a3 : Int, v = .agg #[.int k a0, .int k a1, .int k a2, .int k a3] ∧ d = .agg [.lit (.int k a0), .lit (.int k a1), .lit (.int k a2), .lit (.int k a3)] ∧ p = [] ∧ (Lit.int k a0).wf = true ∧ (Lit.int k a1).wf = true ∧ (Lit.int k a2).wf = true ∧ (Lit.int k a3).wf = true := by
  obtain ⟨v0, v1, v2, v3, y0, y1, y2, y3, n, rfl, rfl, rfl, t0, t1, t2, t3⟩ := open_agg4 hs hone hC hv h
  obtain ⟨a0, h0, g0, w0⟩ := DataW.trod_int e0 t0
  obtain ⟨a1, h1, g1, w1⟩ := DataW.trod_int e1 t1
  obtain ⟨a2, h2, g2, w2⟩ := DataW.trod_int e2 t2
  obtain ⟨a3, h3, g3, w3⟩ := DataW.trod_int e3 t3
  simp only [List.cons.injEq, and_true] at h0 h1 h2 h3
  subst h0
  subst g0
  subst h1
  subst g1
  subst h2
  subst g2
  subst h3
  subst g3
  exact ⟨a0, a1, a2, a3, rfl, rfl, rfl, w0, w1, w2, w3⟩
theorem shut_ints4 {t : TypeId} {k : IntKind} {f0 f1 f2 f3 : Field} {a0 a1 a2 a3 : Int} (hs : P.underlying t = some (.struct #[f0, f1, f2, f3])) (hone : oneCellFields P #[f0, f1, f2, f3] = true) (hC : P.cellsOf t = 4)
    (e0 : P.underlying f0.type = some (.int k)) (e1 : P.underlying f1.type = some (.int k)) (e2 : P.underlying f2.type = some (.int k)) (e3 : P.underlying f3.type = some (.int k)) (w0 : (Lit.int k a0).wf = true) (w1 : (Lit.int k a1).wf = true) (w2 : (Lit.int k a2).wf = true) (w3 : (Lit.int k a3).wf = true) :
    DataW.Trod enc P w base spare held t (.agg #[.int k a0, .int k a1, .int k a2, .int k a3]) (.agg [.lit (.int k a0), .lit (.int k a1), .lit (.int k a2), .lit (.int k a3)]) [] :=
  shut_agg4 (y0 := (.lit (.int k a0), [])) (y1 := (.lit (.int k a1), [])) (y2 := (.lit (.int k a2), [])) (y3 := (.lit (.int k a3), [])) hs hone hC ⟨1, trod_int_mk 0 e0 w0⟩ ⟨1, trod_int_mk 0 e1 w1⟩ ⟨1, trod_int_mk 0 e2 w2⟩ ⟨1, trod_int_mk 0 e3 w3⟩
end
end Go.Proofs.Ytgmepohfkpncmaa
