/- Chapter 44: the word is sent. -/
import Derived.Test.YtldoocndhfgjhaaGreatNodeE
import Derived.Test.YtldoocndhfgjhaaGreatNode
import Derived.Laws.EntriesVeiled
namespace Go.Proofs.YtldoocndhfgjhaaGreat
open Go.RowKit
set_option linter.unusedVariables false
set_option linter.unusedSimpArgs false

/-- The word of the start. -/
def Word0 : Prop := ∀ w : World, Calls Tryz.prog 87 #[.agg #[.int .i32 1073741824, .int .i32 0, .int .i32 0, .int .i32 0, .int .i32 0, .int .i32 0, .int .i32 0, .int .i64 0, .int .i64 0]] w fun e w' => e = .returned (.int .u32 537395712) ∧ Below w.heap.size w w'
set_option maxRecDepth 100000 in
set_option maxHeartbeats 8000000 in
theorem n_stream1 (hW : Word0) (nb base n c db q : Nat) (O : Option Addr) (s now at_ : Int) (H A B : Value) (evs : List (List Value)) (w : World) (hs : 0 ≤ s ∧ s ≤ 10000) (hat : 0 ≤ at_ ∧ at_ ≤ 1000000) (hN : Blk w nb 106 (.int .i64 1 :: .int .i64 1 :: .int .i64 s :: .slice O n c :: ndR now db q H A B).toArray) (hO : OTab 123 w base 75 O n c evs) (hb : base ≤ w.heap.size) (hn : n ≤ 10000) :
    Calls Tryz.prog 51 #[.pointer (some ⟨nb, 0, none⟩), .int .i64 1, .int .i64 at_] w (Sent nb base n c O s (ndR now db q H A B) evs 22 (pkt200 (s % 256) [at_, 537395712, 0, 0, 0]) w) := by
  have hWW := hid hW
  have uw : IntKind.i64.wrap 537395712 = 537395712 := by decide
  clear hW
  have hrem : Int.tmod at_ 4294967296 = at_ := Int.tmod_eq_of_lt hat.1 (by omega)
  have hrem2 : wrap64 at_ = at_ := by unfold wrap64; omega
  have wat : IntKind.i64.wrap at_ = at_ := IntWalk.i64_in _ (by omega)
  have q6 : w.cell? ⟨nb, 6, none⟩ = some (.int .i32 1073741824) := hN.cell 6
  have q7 : w.cell? ⟨nb, 7, none⟩ = some (.int .i32 0) := hN.cell 7
  have q8 : w.cell? ⟨nb, 8, none⟩ = some (.int .i32 0) := hN.cell 8
  have q9 : w.cell? ⟨nb, 9, none⟩ = some (.int .i32 0) := hN.cell 9
  have q10 : w.cell? ⟨nb, 10, none⟩ = some (.int .i32 0) := hN.cell 10
  have q11 : w.cell? ⟨nb, 11, none⟩ = some (.int .i32 0) := hN.cell 11
  have q12 : w.cell? ⟨nb, 12, none⟩ = some (.int .i32 0) := hN.cell 12
  have q13 : w.cell? ⟨nb, 13, none⟩ = some (.int .i64 0) := hN.cell 13
  have q14 : w.cell? ⟨nb, 14, none⟩ = some (.int .i64 0) := hN.cell 14
  have hK := (Kept.refl (PT1 nb (.slice O n c)) w).alloc (.cells #[.int .i32 1073741824, .int .i32 0, .int .i32 0, .int .i32 0, .int .i32 0, .int .i32 0, .int .i32 0, .int .i64 0, .int .i64 0] 83)
  have hN1 := hN.alloc (.cells #[.int .i32 1073741824, .int .i32 0, .int .i32 0, .int .i32 0, .int .i32 0, .int .i32 0, .int .i32 0, .int .i64 0, .int .i64 0] 83)
  have hO1 := hO.alloc (.cells #[.int .i32 1073741824, .int .i32 0, .int .i32 0, .int .i32 0, .int .i32 0, .int .i32 0, .int .i32 0, .int .i64 0, .int .i64 0] 83)
  have e1 := Blk.new w 83 #[.int .i32 1073741824, .int .i32 0, .int .i32 0, .int .i32 0, .int .i32 0, .int .i32 0, .int .i32 0, .int .i64 0, .int .i64 0]
  have hb1 : base ≤ (w.alloc (.cells #[.int .i32 1073741824, .int .i32 0, .int .i32 0, .int .i32 0, .int .i32 0, .int .i32 0, .int .i32 0, .int .i64 0, .int .i64 0] 83)).heap.size := by simp; omega
  go_enter Tryz.func51, Tryz.ntmps51
  go_upto_region 2 with fail
  generalize w.alloc (.cells #[.int .i32 1073741824, .int .i32 0, .int .i32 0, .int .i32 0, .int .i32 0, .int .i32 0, .int .i32 0, .int .i64 0, .int .i64 0] 83) = W0 at *
  clear q6 q7 q8 q9 q10 q11 q12 q13 q14
  have q27 : W0.cell? ⟨nb, 27, none⟩ = some (.int .i64 0) := hN1.cell 27
  have q28 : W0.cell? ⟨nb, 28, none⟩ = some (.int .i64 0) := hN1.cell 28
  have q29 : W0.cell? ⟨nb, 29, none⟩ = some (.int .i64 0) := hN1.cell 29
  replace hN1 := hN1.alloc (.cells #[.int .i64 0, .int .i64 0, .int .i64 0] 102)
  replace hO1 := hO1.alloc (.cells #[.int .i64 0, .int .i64 0, .int .i64 0] 102)
  replace hK := hK.alloc (.cells #[.int .i64 0, .int .i64 0, .int .i64 0] 102)
  replace e1 := e1.alloc (.cells #[.int .i64 0, .int .i64 0, .int .i64 0] 102)
  have e2 := Blk.new W0 102 #[.int .i64 0, .int .i64 0, .int .i64 0]
  replace hb1 : base ≤ (W0.alloc (.cells #[.int .i64 0, .int .i64 0, .int .i64 0] 102)).heap.size := by simp; omega
  go_upto_region 13 with fail
  generalize W0.alloc (.cells #[.int .i64 0, .int .i64 0, .int .i64 0] 102) = W1 at *
  clear q27 q28 q29
  refine wp_region_held_drew (S := fun w' : World => w'.cell? ⟨w.heap.size, 0, none⟩ = some (.int .i32 1073741824) ∧ w'.cell? ⟨w.heap.size, 1, none⟩ = some (.int .i32 0) ∧ w'.cell? ⟨w.heap.size, 2, none⟩ = some (.int .i32 0) ∧ w'.cell? ⟨w.heap.size, 3, none⟩ = some (.int .i32 0) ∧ w'.cell? ⟨w.heap.size, 4, none⟩ = some (.int .i32 0) ∧ w'.cell? ⟨w.heap.size, 5, none⟩ = some (.int .i32 0) ∧ w'.cell? ⟨w.heap.size, 6, none⟩ = some (.int .i32 0) ∧ w'.cell? ⟨w.heap.size, 7, none⟩ = some (.int .i64 0) ∧ w'.cell? ⟨w.heap.size, 8, none⟩ = some (.int .i64 0) ∧ w'.cell? ⟨W0.heap.size, 0, none⟩ = some (.int .i64 0) ∧ w'.cell? ⟨W0.heap.size, 1, none⟩ = some (.int .i64 0) ∧ w'.cell? ⟨W0.heap.size, 2, none⟩ = some (.int .i64 0)) (by kernel_rfl) ⟨e1.cell 0, e1.cell 1, e1.cell 2, e1.cell 3, e1.cell 4, e1.cell 5, e1.cell 6, e1.cell 7, e1.cell 8, e2.cell 0, e2.cell 1, e2.cell 2⟩ (fun hHeld => ?_)
  refine (show wpAnyH _ _ _ _ _ 15 _ _ _ from ?_)
  try (simp only [Act.put, List.setIfInBounds_toArray, List.set_cons_zero, List.set_cons_succ])
  replace hN1 := hN1.drew
  replace hO1 := hO1.drew
  replace hK := hK.drew
  replace e1 := e1.drew
  replace e2 := e2.drew
  replace hb1 : base ≤ W1.drew.heap.size := hb1
  generalize W1.drew = V0 at *
  refine tk 0 hHeld ?_
  refine tk 1 hHeld ?_
  refine tk 2 hHeld ?_
  refine tk 3 hHeld ?_
  refine tk 4 hHeld ?_
  refine tk 7 hHeld ?_
  refine tk 8 hHeld ?_
  refine tk 9 hHeld ?_
  refine tk 10 hHeld ?_
  refine tk 11 hHeld ?_
  refine tk 12 hHeld ?_
  refine rd1 5 (fun KK hKK => ?_)
  go_simp
  try go_wp2_with fail
  refine (hWW.out V0).mono ?_
  rintro e w1 ⟨rfl, b1⟩
  replace hN1 := hN1.below b1 hN1.lt
  replace hO1 := hO1.below b1 (Nat.le_refl _)
  replace e1 := e1.below b1 e1.lt
  replace e2 := e2.below b1 e2.lt
  replace hK := hK.trans (Kept.of_below b1)
  replace hb1 := Nat.le_trans hb1 b1.size
  clear b1
  refine hKK.out _ _ ⟨e1.cell 0, e1.cell 1, e1.cell 2, e1.cell 3, e1.cell 4, e1.cell 5, e1.cell 6, e1.cell 7, e1.cell 8, e2.cell 0, e2.cell 1, e2.cell 2⟩ (fun hHeld => ?_)
  clear hKK KK
  try (simp only [Act.put, List.setIfInBounds_toArray, List.set_cons_zero, List.set_cons_succ])
  refine tk 6 hHeld ?_
  refine rd1 13 (fun KK hKK => ?_)
  go_simp
  try go_wp2_with fail
  have bv := Blk.new w1 2 #[.int .i64 at_, .int .i64 537395712, .int .i64 0, .int .i64 0, .int .i64 0]
  replace hN1 := hN1.alloc (.cells #[.int .i64 at_, .int .i64 537395712, .int .i64 0, .int .i64 0, .int .i64 0] 2)
  replace hO1 := hO1.alloc (.cells #[.int .i64 at_, .int .i64 537395712, .int .i64 0, .int .i64 0, .int .i64 0] 2)
  replace hK := hK.alloc (.cells #[.int .i64 at_, .int .i64 537395712, .int .i64 0, .int .i64 0, .int .i64 0] 2)
  replace e1 := e1.alloc (.cells #[.int .i64 at_, .int .i64 537395712, .int .i64 0, .int .i64 0, .int .i64 0] 2)
  replace e2 := e2.alloc (.cells #[.int .i64 at_, .int .i64 537395712, .int .i64 0, .int .i64 0, .int .i64 0] 2)
  have hlt : w1.heap.size < (w1.alloc (.cells #[.int .i64 at_, .int .i64 537395712, .int .i64 0, .int .i64 0, .int .i64 0] 2)).heap.size := by simp
  generalize w1.alloc (.cells #[.int .i64 at_, .int .i64 537395712, .int .i64 0, .int .i64 0, .int .i64 0] 2) = W2 at *
  refine hKK.out _ _ ⟨e1.cell 0, e1.cell 1, e1.cell 2, e1.cell 3, e1.cell 4, e1.cell 5, e1.cell 6, e1.cell 7, e1.cell 8, e2.cell 0, e2.cell 1, e2.cell 2⟩ (fun hHeld => ?_)
  clear hKK KK
  try (simp only [Act.put, List.setIfInBounds_toArray, List.set_cons_zero, List.set_cons_succ])
  refine rd1 14 (fun KK hKK => ?_)
  go_simp
  try go_wp2_with fail
  refine (n_send200 nb base n c 5 O (some ⟨w1.heap.size, 0, none⟩) s [at_, 537395712, 0, 0, 0] _ evs W2 hs hN1 hO1 (by omega) hn (Row.blk bv rfl hlt) (vk200 _ _ hat (by omega))).mono ?_
  intro e w3 h3
  have HF2 := hid (h3.from_ hK)
  have he := h3.1
  subst he
  obtain ⟨_, A3, c3, X3, d3, k1, k2, k3, k4⟩ := h3
  replace e1 := k4.blk e1 (by
    rintro (rfl | hi)
    · exact absurd (e1.alone hN1) (by decide)
    · obtain ⟨_, _, cs', hB'⟩ := hO1.typed _ hi
      exact absurd (e1.alone hB') (by decide))
  replace e2 := k4.blk e2 (by
    rintro (hi | hi)
    · rw [hi] at e2
      exact absurd (e2.alone hN1) (by decide)
    · obtain ⟨_, _, cs', hB'⟩ := hO1.typed _ hi
      exact absurd (e2.alone hB') (by decide))
  clear k1 k2 k3 k4 hN1 hO1 hK bv
  refine hKK.out _ _ ⟨e1.cell 0, e1.cell 1, e1.cell 2, e1.cell 3, e1.cell 4, e1.cell 5, e1.cell 6, e1.cell 7, e1.cell 8, e2.cell 0, e2.cell 1, e2.cell 2⟩ (fun hHeld => ?_)
  clear hKK KK
  try (simp only [Act.put, List.setIfInBounds_toArray, List.set_cons_zero, List.set_cons_succ])
  refine wpAnyH_done (by kernel_rfl) ?_ _
  clear hHeld e1 e2
  go_wp2_with fail
  go_end0
  exact HF2.out
end Go.Proofs.YtldoocndhfgjhaaGreat
namespace Go.Proofs.YtldoocndhfgjhaaGreat
open Go.RowKit
set_option linter.unusedVariables false
set_option linter.unusedSimpArgs false

section
variable {P : Program}
theorem method_val (fuel : Nat) (t elem : TypeId) (p : Addr) (name : String) (f : FuncId) (S : Value) (e : TypeId) (w : World)
    (hi : ((P.info? t).bind fun i => (i.methods.find? (·.name == name)).map fun m => (m.path, m.func)) = some (#[], some (f, false)))
    (ht : P.underlying t = some (.pointer elem)) (he : P.underlying elem = some (.slice e)) (hc : w.cell? p = some S) :
    (method (fuel + 1) t (.pointer (some p)) name).run P w = .ok (f, S) w := by
  have hwc : ∀ (t : TypeId) (a b : ByteArray) (w : World), (Builtin.ssaWrapNilChk_ #[t] t #[.pointer (some p), .string a, .string b]).run P w = .ok (.pointer (some p)) w := fun _ _ _ _ => rfl
  cases hq : P.info? t with
  | none => rw [hq] at hi; cases hi
  | some i =>
    rw [hq] at hi
    simp only [Option.bind_some] at hi
    cases hm : i.methods.find? (·.name == name) with
    | none => rw [hm] at hi; cases hi
    | some m =>
      rw [hm] at hi
      simp only [Option.map_some, Option.some.injEq, Prod.mk.injEq] at hi
      obtain ⟨h1, h2⟩ := hi
      simp [method, typeInfo, hq, hm, h1, h2, follow, receiverAt, run_underlying ht, Place.get, strVal, hwc, asAddr, loadVar, isAgg, run_underlying he, hc, Result.andThen, run_load]
theorem method_ptr (fuel : Nat) (t elem : TypeId) (p : Addr) (name : String) (f : FuncId) (w : World)
    (hi : ((P.info? t).bind fun i => (i.methods.find? (·.name == name)).map fun m => (m.path, m.func)) = some (#[], some (f, true)))
    (ht : P.underlying t = some (.pointer elem)) :
    (method (fuel + 1) t (.pointer (some p)) name).run P w = .ok (f, .pointer (some p)) w := by
  cases hq : P.info? t with
  | none => rw [hq] at hi; cases hi
  | some i =>
    rw [hq] at hi
    simp only [Option.bind_some] at hi
    cases hm : i.methods.find? (·.name == name) with
    | none => rw [hm] at hi; cases hi
    | some m =>
      rw [hm] at hi
      simp only [Option.map_some, Option.some.injEq, Prod.mk.injEq] at hi
      obtain ⟨h1, h2⟩ := hi
      simp [method, typeInfo, hq, hm, h1, h2, follow, receiverAt, run_underlying ht, Place.get]
end
theorem m_Len (q : Nat) (S : Value) (w : World) (hc : w.cell? ⟨q, 0, none⟩ = some S) : (method 712 144 (.pointer (some ⟨q, 0, none⟩)) "Len").run Tryz.prog w = .ok (128, S) w :=
  method_val 711 144 128 ⟨q, 0, none⟩ "Len" _ S 140 w (by kernel_rfl) Tryz.underlying144 Tryz.underlying128 hc
theorem m_Less (q : Nat) (S : Value) (w : World) (hc : w.cell? ⟨q, 0, none⟩ = some S) : (method 712 144 (.pointer (some ⟨q, 0, none⟩)) "Less").run Tryz.prog w = .ok (386, S) w :=
  method_val 711 144 128 ⟨q, 0, none⟩ "Less" _ S 140 w (by kernel_rfl) Tryz.underlying144 Tryz.underlying128 hc
theorem m_Swap (q : Nat) (S : Value) (w : World) (hc : w.cell? ⟨q, 0, none⟩ = some S) : (method 712 144 (.pointer (some ⟨q, 0, none⟩)) "Swap").run Tryz.prog w = .ok (387, S) w :=
  method_val 711 144 128 ⟨q, 0, none⟩ "Swap" _ S 140 w (by kernel_rfl) Tryz.underlying144 Tryz.underlying128 hc
theorem m_Push (q : Nat) (w : World) : (method 712 144 (.pointer (some ⟨q, 0, none⟩)) "Push").run Tryz.prog w = .ok (390, .pointer (some ⟨q, 0, none⟩)) w :=
  method_ptr 711 144 128 ⟨q, 0, none⟩ "Push" _ w (by kernel_rfl) Tryz.underlying144
theorem d_Len (A : Option Addr) (n c : Nat) (w : World) : Calls Tryz.prog 128 #[.slice A n c] w fun e w' => e = .returned (.int .i64 n) ∧ w' = w := by
  go_enter Tryz.func128, Tryz.ntmps128
  go_wp2
  go_ret
  exact ⟨rfl, rfl⟩
end Go.Proofs.YtldoocndhfgjhaaGreat
