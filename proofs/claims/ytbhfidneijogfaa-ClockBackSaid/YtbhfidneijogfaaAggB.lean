/- Structs of a bool and some integers: opened and shut. -/
import Derived.Test.YtbhfidneijogfaaAid
import Derived.Lib.SmallJoins
import Derived.ChangeSame
namespace Go.Proofs.Ytbhfidneijogfaa
open Go.Joins Go.ChangeShapes Go.WideShapes Go.RowKit Go.Deep
section
variable {H : Type} {enc : TypeId × Value → H} {P : Program} {w : World} {base : Nat} {spare : Nat → Bool} {held : Bool}
theorem trod_bool_mk {t : TypeId} (m : Nat) (ht : P.underlying t = some .bool) (b : Bool) : DataW.trod enc P w base spare held (m + 1) t [.bool b] = some (.lit (.bool b), []) := by simp [DataW.trod, ht]
theorem open_five {r : Reach} {b0 : Nat} {t : TypeId} {f0 f1 f2 f3 f4 : Field} {v : Value} {d : DataW H} {p : List MemPlace} (hs : P.underlying t = some (.struct #[f0, f1, f2, f3, f4])) (hone : oneCellFields P #[f0, f1, f2, f3, f4] = true) (hC : P.cellsOf t = 5)
    (hv : Value.okWide P w r b0 t v) (h : DataW.Trod enc P w base spare held t v d p) :
    ∃ (v0 v1 v2 v3 v4 : Value) (y0 y1 y2 y3 y4 : DataW H × List MemPlace) (n : Nat), v = .agg #[v0, v1, v2, v3, v4] ∧ d = .agg [y0.1, y1.1, y2.1, y3.1, y4.1] ∧ p = y0.2 ++ (y1.2 ++ (y2.2 ++ (y3.2 ++ y4.2))) ∧
      DataW.trod enc P w base spare held n f0.type [v0] = some y0 ∧ DataW.trod enc P w base spare held n f1.type [v1] = some y1 ∧ DataW.trod enc P w base spare held n f2.type [v2] = some y2 ∧ DataW.trod enc P w base spare held n f3.type [v3] = some y3 ∧ DataW.trod enc P w base spare held n f4.type [v4] = some y4 := by
  obtain ⟨cs, rfl, hsz⟩ := okWide_struct hs hv
  obtain ⟨l⟩ := cs
  obtain ⟨fuel, hf⟩ := h
  obtain ⟨xs, n, _, hx, _, hlen, hg⟩ := DataW.trod_struct hs hf
  match l, hsz.trans hC, xs, hlen with
  | [c0, c1, c2, c3, c4], _, [y0, y1, y2, y3, y4], _ =>
    simp only [Prod.mk.injEq] at hx
    have key : ∀ (j : Nat) (f : Field) (c : Value), #[f0, f1, f2, f3, f4][j]? = some f → [c0, c1, c2, c3, c4][j]? = some c → DataW.trod enc P w base spare held n f.type [c] = [y0, y1, y2, y3, y4][j]? := fun j f c h1 h2 => by
      obtain ⟨o, k⟩ := hone_of hone j f h1
      have h3 := hg j f h1
      have h4 : ([c0, c1, c2, c3, c4].drop j).take 1 = [c] := by
        obtain ⟨hj, he⟩ := List.getElem?_eq_some_iff.1 h2
        rw [List.drop_eq_getElem_cons hj, he]; rfl
      have h5 : (Value.agg #[c0, c1, c2, c3, c4]).cells.toList = [c0, c1, c2, c3, c4] := rfl
      rw [h5, o, k, h4] at h3
      exact h3
    exact ⟨c0, c1, c2, c3, c4, y0, y1, y2, y3, y4, n, rfl, by simpa using hx.1, by simpa using hx.2, key 0 f0 c0 rfl rfl, key 1 f1 c1 rfl rfl, key 2 f2 c2 rfl rfl, key 3 f3 c3 rfl rfl, key 4 f4 c4 rfl rfl⟩
theorem shut_five {t : TypeId} {f0 f1 f2 f3 f4 : Field} {v0 v1 v2 v3 v4 : Value} {y0 y1 y2 y3 y4 : DataW H × List MemPlace} (hs : P.underlying t = some (.struct #[f0, f1, f2, f3, f4])) (hone : oneCellFields P #[f0, f1, f2, f3, f4] = true) (hC : P.cellsOf t = 5)
    (t0 : ∃ n, DataW.trod enc P w base spare held n f0.type [v0] = some y0) (t1 : ∃ n, DataW.trod enc P w base spare held n f1.type [v1] = some y1) (t2 : ∃ n, DataW.trod enc P w base spare held n f2.type [v2] = some y2) (t3 : ∃ n, DataW.trod enc P w base spare held n f3.type [v3] = some y3) (t4 : ∃ n, DataW.trod enc P w base spare held n f4.type [v4] = some y4) :
    DataW.Trod enc P w base spare held t (.agg #[v0, v1, v2, v3, v4]) (.agg [y0.1, y1.1, y2.1, y3.1, y4.1]) (y0.2 ++ (y1.2 ++ (y2.2 ++ (y3.2 ++ y4.2)))) := by
  obtain ⟨n0, t0⟩ := t0
  obtain ⟨n1, t1⟩ := t1
  obtain ⟨n2, t2⟩ := t2
  obtain ⟨n3, t3⟩ := t3
  obtain ⟨n4, t4⟩ := t4
  obtain ⟨o0, k0⟩ := hone_of hone 0 f0 rfl
  obtain ⟨o1, k1⟩ := hone_of hone 1 f1 rfl
  obtain ⟨o2, k2⟩ := hone_of hone 2 f2 rfl
  obtain ⟨o3, k3⟩ := hone_of hone 3 f3 rfl
  obtain ⟨o4, k4⟩ := hone_of hone 4 f4 rfl
  have u0 := DataW.trod_le (show n0 ≤ n0 + n1 + n2 + n3 + n4 by omega) t0
  have u1 := DataW.trod_le (show n1 ≤ n0 + n1 + n2 + n3 + n4 by omega) t1
  have u2 := DataW.trod_le (show n2 ≤ n0 + n1 + n2 + n3 + n4 by omega) t2
  have u3 := DataW.trod_le (show n3 ≤ n0 + n1 + n2 + n3 + n4 by omega) t3
  have u4 := DataW.trod_le (show n4 ≤ n0 + n1 + n2 + n3 + n4 by omega) t4
  have ts := trod_struct_mk (enc := enc) (w := w) (base := base) (spare := spare) (held := held) (n := n0 + n1 + n2 + n3 + n4) (cs := [v0, v1, v2, v3, v4]) (xs := [y0, y1, y2, y3, y4]) hs (by simp [hC])
    (by simp [o0, k0, o1, k1, o2, k2, o3, k3, o4, k4, u0, u1, u2, u3, u4])
  exact ⟨_, by simpa [Value.cells] using ts⟩
theorem open_bi3 {r : Reach} {b0 : Nat} {t : TypeId} {k : IntKind} {f0 f1 f2 f3 : Field} {v : Value} {d : DataW H} {p : List MemPlace} (hs : P.underlying t = some (.struct #[f0, f1, f2, f3])) (hone : oneCellFields P #[f0, f1, f2, f3] = true) (hC : P.cellsOf t = 4)
    (e0 : P.underlying f0.type = some .bool) (e1 : P.underlying f1.type = some (.int k)) (e2 : P.underlying f2.type = some (.int k)) (e3 : P.underlying f3.type = some (.int k)) (hv : Value.okWide P w r b0 t v) (h : DataW.Trod enc P w base spare held t v d p) :
    ∃ (b : Bool) (a1 a2 a3 : Int), v = .agg #[.bool b, .int k a1, .int k a2, .int k a3] ∧ d = .agg [.lit (.bool b), .lit (.int k a1), .lit (.int k a2), .lit (.int k a3)] ∧ p = [] ∧ (Lit.int k a1).wf = true ∧ (Lit.int k a2).wf = true ∧ (Lit.int k a3).wf = true := by
  obtain ⟨v0, v1, v2, v3, y0, y1, y2, y3, n, rfl, rfl, rfl, t0, t1, t2, t3⟩ := open_agg4 hs hone hC hv h
  obtain ⟨b, h0, g0⟩ := DataW.trod_bool e0 t0
  obtain ⟨a1, h1, g1, w1⟩ := DataW.trod_int e1 t1
  obtain ⟨a2, h2, g2, w2⟩ := DataW.trod_int e2 t2
  obtain ⟨a3, h3, g3, w3⟩ := DataW.trod_int e3 t3
  simp only [List.cons.injEq, and_true] at h0 h1 h2 h3
  subst h0
  subst g0
  subst h1
  subst g1
  subst h2
  subst g2
  subst h3
  subst g3
  exact ⟨b, a1, a2, a3, rfl, rfl, rfl, w1, w2, w3⟩
theorem shut_bi3 {t : TypeId} {k : IntKind} {f0 f1 f2 f3 : Field} {b : Bool} {a1 a2 a3 : Int} (hs : P.underlying t = some (.struct #[f0, f1, f2, f3])) (hone : oneCellFields P #[f0, f1, f2, f3] = true) (hC : P.cellsOf t = 4)
    (e0 : P.underlying f0.type = some .bool) (e1 : P.underlying f1.type = some (.int k)) (e2 : P.underlying f2.type = some (.int k)) (e3 : P.underlying f3.type = some (.int k)) (w1 : (Lit.int k a1).wf = true) (w2 : (Lit.int k a2).wf = true) (w3 : (Lit.int k a3).wf = true) :
    DataW.Trod enc P w base spare held t (.agg #[.bool b, .int k a1, .int k a2, .int k a3]) (.agg [.lit (.bool b), .lit (.int k a1), .lit (.int k a2), .lit (.int k a3)]) [] :=
  shut_agg4 (y0 := (.lit (.bool b), [])) (y1 := (.lit (.int k a1), [])) (y2 := (.lit (.int k a2), [])) (y3 := (.lit (.int k a3), [])) hs hone hC ⟨1, trod_bool_mk 0 e0 b⟩ ⟨1, trod_int_mk 0 e1 w1⟩ ⟨1, trod_int_mk 0 e2 w2⟩ ⟨1, trod_int_mk 0 e3 w3⟩
theorem open_bi4 {r : Reach} {b0 : Nat} {t : TypeId} {k : IntKind} {f0 f1 f2 f3 f4 : Field} {v : Value} {d : DataW H} {p : List MemPlace} (hs : P.underlying t = some (.struct #[f0, f1, f2, f3, f4])) (hone : oneCellFields P #[f0, f1, f2, f3, f4] = true) (hC : P.cellsOf t = 5)
    (e0 : P.underlying f0.type = some .bool) (e1 : P.underlying f1.type = some (.int k)) (e2 : P.underlying f2.type = some (.int k)) (e3 : P.underlying f3.type = some (.int k)) (e4 : P.underlying f4.type = some (.int k)) (hv : Value.okWide P w r b0 t v) (h : DataW.Trod enc P w base spare held t v d p) :
    ∃ (b : Bool) (a1 a2 a3 a4 : Int), v = .agg #[.bool b, .int k a1, .int k a2, .int k a3, .int k a4] ∧ d = .agg [.lit (.bool b), .lit (.int k a1), .lit (.int k a2), .lit (.int k a3), .lit (.int k a4)] ∧ p = [] ∧ (Lit.int k a1).wf = true ∧ (Lit.int k a2).wf = true ∧ (Lit.int k a3).wf = true ∧ (Lit.int k a4).wf = true := by
  obtain ⟨v0, v1, v2, v3, v4, y0, y1, y2, y3, y4, n, rfl, rfl, rfl, t0, t1, t2, t3, t4⟩ := open_five hs hone hC hv h
  obtain ⟨b, h0, g0⟩ := DataW.trod_bool e0 t0
  obtain ⟨a1, h1, g1, w1⟩ := DataW.trod_int e1 t1
  obtain ⟨a2, h2, g2, w2⟩ := DataW.trod_int e2 t2
  obtain ⟨a3, h3, g3, w3⟩ := DataW.trod_int e3 t3
  obtain ⟨a4, h4, g4, w4⟩ := DataW.trod_int e4 t4
  simp only [List.cons.injEq, and_true] at h0 h1 h2 h3 h4
  subst h0
  subst g0
  subst h1
  subst g1
  subst h2
  subst g2
  subst h3
  subst g3
  subst h4
  subst g4
  exact ⟨b, a1, a2, a3, a4, rfl, rfl, rfl, w1, w2, w3, w4⟩
theorem shut_bi4 {t : TypeId} {k : IntKind} {f0 f1 f2 f3 f4 : Field} {b : Bool} {a1 a2 a3 a4 : Int} (hs : P.underlying t = some (.struct #[f0, f1, f2, f3, f4])) (hone : oneCellFields P #[f0, f1, f2, f3, f4] = true) (hC : P.cellsOf t = 5)
    (e0 : P.underlying f0.type = some .bool) (e1 : P.underlying f1.type = some (.int k)) (e2 : P.underlying f2.type = some (.int k)) (e3 : P.underlying f3.type = some (.int k)) (e4 : P.underlying f4.type = some (.int k)) (w1 : (Lit.int k a1).wf = true) (w2 : (Lit.int k a2).wf = true) (w3 : (Lit.int k a3).wf = true) (w4 : (Lit.int k a4).wf = true) :
    DataW.Trod enc P w base spare held t (.agg #[.bool b, .int k a1, .int k a2, .int k a3, .int k a4]) (.agg [.lit (.bool b), .lit (.int k a1), .lit (.int k a2), .lit (.int k a3), .lit (.int k a4)]) [] :=
  shut_five (y0 := (.lit (.bool b), [])) (y1 := (.lit (.int k a1), [])) (y2 := (.lit (.int k a2), [])) (y3 := (.lit (.int k a3), [])) (y4 := (.lit (.int k a4), [])) hs hone hC ⟨1, trod_bool_mk 0 e0 b⟩ ⟨1, trod_int_mk 0 e1 w1⟩ ⟨1, trod_int_mk 0 e2 w2⟩ ⟨1, trod_int_mk 0 e3 w3⟩ ⟨1, trod_int_mk 0 e4 w4⟩
end
end Go.Proofs.Ytbhfidneijogfaa
