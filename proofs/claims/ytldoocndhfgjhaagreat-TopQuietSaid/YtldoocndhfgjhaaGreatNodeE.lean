/- Chapter 40: the counts of a decoder that nothing came to. -/
import Derived.Test.YtldoocndhfgjhaaGreatNodeC
namespace Go.Proofs.YtldoocndhfgjhaaGreat
open Go.RowKit
set_option linter.unusedVariables false
set_option linter.unusedSimpArgs false

theorem Blk.setRow {w : World} {g : Nat} {t : TypeId} {cs : Array Value} (h : Blk w g t cs) (cs' : Array Value) : Blk (w.setRow g cs') g t cs' := setRow_heap w g cs _ t _ h
theorem setRow_far (w : World) (g i : Nat) (cs : Array Value) (h : i ≠ g) : (w.setRow g cs).heap[i]? = w.heap[i]? := by
  by_cases hi : i < w.heap.size
  · exact (grown_setRow w g cs).block i hi (fun e => h (by injection e))
  · rw [Array.getElem?_eq_none (by simp; omega), Array.getElem?_eq_none (by omega)]
theorem Blk.setRowFar {w : World} {g g' : Nat} {t : TypeId} {cs : Array Value} (h : Blk w g t cs) (hne : g ≠ g') (cs' : Array Value) : Blk (w.setRow g' cs') g t cs := (setRow_far w g' g cs' hne).trans h
theorem below_setRow {B g : Nat} {w0 w : World} (h : Below B w0 w) (hg : B ≤ g) (cs : Array Value) : Below B w0 (w.setRow g cs) :=
  ⟨h.os, h.tape, h.output, by rw [size_setRow]; exact h.size, fun i hi => (setRow_far w g i cs (by omega)).trans (h.block i hi)⟩
def decC (wa : Nat) : Array Value := #[.pointer (some ⟨wa, 0, none⟩), .int .i64 0, .int .i64 0, .int .i64 0, .int .i64 0, .int .i64 0, .int .i64 0, .int .i64 0, .int .i64 0, .int .i64 0, .int .i64 0, .int .i64 0, .int .i64 0, .int .i64 0]
theorem run_eql4 (w : World) : (Op.equalIn 10000 121 (.agg #[.int .i64 0, .int .i64 0, .int .i64 0, .int .i64 0]) (.agg #[.int .i64 0, .int .i64 0, .int .i64 0, .int .i64 0])).run Tryz.prog w = .ok true w := by kernel_rfl
theorem y_there (db wa : Nat) (w : World) (hD : Blk w db 125 (decC wa)) : Calls Tryz.prog 78 #[.pointer (some ⟨db, 0, none⟩)] w fun e w' => e = .returned (.bool true) ∧ w' = w := by
  have q0 : w.cell? ⟨db, 0, none⟩ = some (.pointer (some ⟨wa, 0, none⟩)) := hD.cell 0
  clear hD
  go_enter Tryz.func78, Tryz.ntmps78
  go_wp2
  go_ret
  exact ⟨rfl, rfl⟩
set_option maxRecDepth 20000 in
set_option maxHeartbeats 8000000 in
theorem y_Counts (db wa : Nat) (w : World) (hD : Blk w db 125 (decC wa)) : Calls Tryz.prog 86 #[.pointer (some ⟨db, 0, none⟩)] w fun e w' => e = .returned (.agg #[.int .i64 0, .int .i64 0, .int .i64 0, .int .i64 0, .int .i64 0, .int .i64 0, .int .i64 0, .int .i64 0, .int .i64 0, .int .i64 0, .int .i64 0, .int .i64 0, .int .i64 0]) ∧ Below w.heap.size w w' := by
  have EQ := run_eql4
  have HT := hid fun w h => y_there db wa w h
  have hb := ((Below.refl w.heap.size w).alloc (Nat.le_refl _) (.cells #[.int .i64 0, .int .i64 0, .int .i64 0, .int .i64 0, .int .i64 0, .int .i64 0, .int .i64 0, .int .i64 0, .int .i64 0, .int .i64 0, .int .i64 0, .int .i64 0, .int .i64 0] 123)).alloc (by simp) (.cells #[.int .i64 0, .int .i64 0, .int .i64 0, .int .i64 0] 121)
  have hD1 := (hD.alloc (.cells #[.int .i64 0, .int .i64 0, .int .i64 0, .int .i64 0, .int .i64 0, .int .i64 0, .int .i64 0, .int .i64 0, .int .i64 0, .int .i64 0, .int .i64 0, .int .i64 0, .int .i64 0] 123)).alloc (.cells #[.int .i64 0, .int .i64 0, .int .i64 0, .int .i64 0] 121)
  have e1 := (Blk.new w 123 #[.int .i64 0, .int .i64 0, .int .i64 0, .int .i64 0, .int .i64 0, .int .i64 0, .int .i64 0, .int .i64 0, .int .i64 0, .int .i64 0, .int .i64 0, .int .i64 0, .int .i64 0]).alloc (.cells #[.int .i64 0, .int .i64 0, .int .i64 0, .int .i64 0] 121)
  have e2 := Blk.new (w.alloc (.cells #[.int .i64 0, .int .i64 0, .int .i64 0, .int .i64 0, .int .i64 0, .int .i64 0, .int .i64 0, .int .i64 0, .int .i64 0, .int .i64 0, .int .i64 0, .int .i64 0, .int .i64 0] 123)) 121 #[.int .i64 0, .int .i64 0, .int .i64 0, .int .i64 0]
  simp only [World.size_alloc] at e2
  go_enter Tryz.func86, Tryz.ntmps86
  go_upto_region 2 with fail
  generalize (w.alloc (.cells #[.int .i64 0, .int .i64 0, .int .i64 0, .int .i64 0, .int .i64 0, .int .i64 0, .int .i64 0, .int .i64 0, .int .i64 0, .int .i64 0, .int .i64 0, .int .i64 0, .int .i64 0] 123)).alloc (.cells #[.int .i64 0, .int .i64 0, .int .i64 0, .int .i64 0] 121) = W0 at *
  refine wp_region_held_drew (S := (fun w' : World => w'.cell? ⟨db, 1, none⟩ = some (.int .i64 0) ∧ w'.cell? ⟨db, 10, none⟩ = some (.int .i64 0) ∧ w'.cell? ⟨db, 11, none⟩ = some (.int .i64 0) ∧ w'.cell? ⟨db, 12, none⟩ = some (.int .i64 0) ∧ w'.cell? ⟨db, 13, none⟩ = some (.int .i64 0) ∧ w'.cell? ⟨w.heap.size + 1, 0, none⟩ = some (.int .i64 0) ∧ w'.cell? ⟨w.heap.size + 1, 1, none⟩ = some (.int .i64 0) ∧ w'.cell? ⟨w.heap.size + 1, 2, none⟩ = some (.int .i64 0) ∧ w'.cell? ⟨w.heap.size + 1, 3, none⟩ = some (.int .i64 0))) (by kernel_rfl) ⟨hD1.cell 1, hD1.cell 10, hD1.cell 11, hD1.cell 12, hD1.cell 13, e2.cell 0, e2.cell 1, e2.cell 2, e2.cell 3⟩ (fun hHeld => ?_)
  refine (show wpAnyH _ _ _ _ _ 20 _ _ _ from ?_)
  try (simp only [Act.put, List.setIfInBounds_toArray, List.set_cons_zero, List.set_cons_succ])
  replace hD1 := hD1.drew
  replace e1 := e1.drew
  replace e2 := e2.drew
  replace hb := hb.drew
  generalize W0.drew = V0 at *
  refine tk 0 hHeld ?_
  refine rd1 1 (fun KK hKK => ?_)
  go_simp
  try go_wp2_with fail
  refine (HT.out V0 hD1).mono ?_
  rintro e w2 ⟨rfl, rfl⟩
  refine hKK.out _ _ ⟨hD1.cell 1, hD1.cell 10, hD1.cell 11, hD1.cell 12, hD1.cell 13, e2.cell 0, e2.cell 1, e2.cell 2, e2.cell 3⟩ (fun hHeld => ?_)
  clear hKK KK
  try (simp only [Act.put, List.setIfInBounds_toArray, List.set_cons_zero, List.set_cons_succ])
  refine tk 2 hHeld ?_
  refine tk 3 hHeld ?_
  refine tk 4 hHeld ?_
  refine tk 5 hHeld ?_
  refine tk 6 hHeld ?_
  refine tk 7 hHeld ?_
  refine tk 8 hHeld ?_
  refine tk 9 hHeld ?_
  refine tk 10 hHeld ?_
  refine tk 11 hHeld ?_
  refine tk 12 hHeld ?_
  refine tk 13 hHeld ?_
  refine tk 14 hHeld ?_
  refine tk 15 hHeld ?_
  refine tk 16 hHeld ?_
  refine tk 17 hHeld ?_
  refine tk 18 hHeld ?_
  refine tk 19 hHeld ?_
  refine wpAnyH_done (by kernel_rfl) ?_ _
  clear hHeld
  have t1 := e1.setRow #[.int .i64 0, .int .i64 0, .int .i64 0, .int .i64 0, .int .i64 0, .int .i64 0, .int .i64 0, .int .i64 0, .int .i64 0, .int .i64 0, .int .i64 0, .int .i64 0, .int .i64 0]
  have t2 := below_setRow hb (Nat.le_refl _) #[.int .i64 0, .int .i64 0, .int .i64 0, .int .i64 0, .int .i64 0, .int .i64 0, .int .i64 0, .int .i64 0, .int .i64 0, .int .i64 0, .int .i64 0, .int .i64 0, .int .i64 0]
  go_wp2_with (refine wpList_store_rowTo rfl 123 _ _ rfl rfl w.heap.size #[.int .i64 0, .int .i64 0, .int .i64 0, .int .i64 0, .int .i64 0, .int .i64 0, .int .i64 0, .int .i64 0, .int .i64 0, .int .i64 0, .int .i64 0, .int .i64 0, .int .i64 0] rfl rfl 123 #[.int .i64 0, .int .i64 0, .int .i64 0, .int .i64 0, .int .i64 0, .int .i64 0, .int .i64 0, .int .i64 0, .int .i64 0, .int .i64 0, .int .i64 0, .int .i64 0, .int .i64 0] e1 (by kernel_rfl) (by kernel_rfl) (by kernel_rfl) ?_)
  generalize w2.setRow w.heap.size _ = w3 at *
  trace_state
  refine bodyPost_ret (results_cell_row rfl _ _ w.heap.size _ _ _ _ rfl t1 Tryz.underlying123 rfl (by kernel_rfl)) rfl ?_
  exact ⟨rfl, t2⟩

end Go.Proofs.YtldoocndhfgjhaaGreat
namespace Go.Proofs.YtldoocndhfgjhaaGreat
open Go.RowKit
set_option linter.unusedVariables false
set_option linter.unusedSimpArgs false

theorem Sent.from_ {nb base n c : Nat} {A : Option Addr} {s : Int} {rest : List Value} {evs : List (List Value)} {L : Nat} {bs : List Int} {w w1 w' : World} {e : Ending} (h : Sent nb base n c A s rest evs L bs w1 e w') (hK : Kept (PT1 nb (.slice A n c)) w w1) : Sent nb base n c A s rest evs L bs w e w' := by
  obtain ⟨h0, A', c', X, d, h1, h2, h3, h4⟩ := h
  exact ⟨h0, A', c', X, d, h1, h2, h3.lower hK.below.size, hK.trans h4⟩
theorem vk0 : ∀ j, j < 6 → VK (fs0[j]?.getD (0, false)).1 (fs0[j]?.getD (0, false)).2 ((wireP ss0 [6, 8, 0, 0, 4, 3])[j]?.getD 0) := by
  intro j hj
  obtain rfl | rfl | rfl | rfl | rfl | rfl : j = 0 ∨ j = 1 ∨ j = 2 ∨ j = 3 ∨ j = 4 ∨ j = 5 := by omega
  all_goals (unfold VK; decide)
theorem vk200 (t v : Int) (ht : 0 ≤ t ∧ t ≤ 1000000) (hv : 0 ≤ v ∧ v < 4294967296) : ∀ j, j < 5 → VK (fs200[j]?.getD (0, false)).1 (fs200[j]?.getD (0, false)).2 ((wireP ss200 [t, v, 0, 0, 0])[j]?.getD 0) := by
  intro j hj
  obtain rfl | rfl | rfl | rfl | rfl : j = 0 ∨ j = 1 ∨ j = 2 ∨ j = 3 ∨ j = 4 := by omega
  · exact Or.inr (Or.inl ⟨rfl, rfl, ht.1, show t < 4294967296 by omega⟩)
  · exact Or.inr (Or.inl ⟨rfl, rfl, hv.1, hv.2⟩)
  · exact Or.inr (Or.inr ⟨rfl, rfl, rfl⟩)
  · exact Or.inr (Or.inr ⟨rfl, rfl, rfl⟩)
  · exact Or.inr (Or.inr ⟨rfl, rfl, rfl⟩)
/-- A node's other parts. -/
def ndR (now : Int) (db q : Nat) (H A B : Value) : List Value := [.int .i64 now, .pointer (some ⟨db, 0, none⟩), .int .i32 1073741824, .int .i32 0, .int .i32 0, .int .i32 0, .int .i32 0, .int .i32 0, .int .i32 0, .int .i64 0, .int .i64 0, .pointer (some ⟨q, 0, none⟩), H, A, B, .int .i64 0, .bool false, .int .i32 0, .int .i32 0, .int .i32 0, .pointer none, .bool false, .int .u32 0, .int .i64 0, .int .i64 0, .int .i64 0, .int .i64 0]
set_option maxRecDepth 100000 in
set_option maxHeartbeats 8000000 in
theorem n_stream0 (nb base n c db wa q : Nat) (O : Option Addr) (s now at_ : Int) (H A B : Value) (evs : List (List Value)) (w : World) (hs : 0 ≤ s ∧ s ≤ 10000) (hat : 0 ≤ at_ ∧ at_ ≤ 1000000) (hN : Blk w nb 106 (.int .i64 1 :: .int .i64 1 :: .int .i64 s :: .slice O n c :: ndR now db q H A B).toArray) (hD : Blk w db 125 (decC wa)) (hO : OTab 123 w base 75 O n c evs) (hb : base ≤ w.heap.size) (hn : n ≤ 10000) :
    Calls Tryz.prog 51 #[.pointer (some ⟨nb, 0, none⟩), .int .i64 0, .int .i64 at_] w (Sent nb base n c O s (ndR now db q H A B) evs 17 (pkt0 (s % 256) [6, 8, 0, 0, 4, 3]) w) := by
  have HC := hid fun w h => y_Counts db wa w h
  have HF : ∀ w, (Instr.field 123 (.agg #[.int .i64 0, .int .i64 0, .int .i64 0, .int .i64 0, .int .i64 0, .int .i64 0, .int .i64 0, .int .i64 0, .int .i64 0, .int .i64 0, .int .i64 0, .int .i64 0, .int .i64 0]) 1).run Tryz.prog w = .ok (.agg #[.int .i64 0, .int .i64 0, .int .i64 0, .int .i64 0]) w := fun _ => by kernel_rfl
  have HX0 : ∀ w, (Instr.index 121 (.agg #[.int .i64 0, .int .i64 0, .int .i64 0, .int .i64 0]) (.int .i64 0)).run Tryz.prog w = .ok (.int .i64 0) w := fun _ => by kernel_rfl
  have HX1 : ∀ w, (Instr.index 121 (.agg #[.int .i64 0, .int .i64 0, .int .i64 0, .int .i64 0]) (.int .i64 1)).run Tryz.prog w = .ok (.int .i64 0) w := fun _ => by kernel_rfl
  have HX2 : ∀ w, (Instr.index 121 (.agg #[.int .i64 0, .int .i64 0, .int .i64 0, .int .i64 0]) (.int .i64 2)).run Tryz.prog w = .ok (.int .i64 0) w := fun _ => by kernel_rfl
  have HX3 : ∀ w, (Instr.index 121 (.agg #[.int .i64 0, .int .i64 0, .int .i64 0, .int .i64 0]) (.int .i64 3)).run Tryz.prog w = .ok (.int .i64 0) w := fun _ => by kernel_rfl
  have hrem : Int.tmod at_ 4294967296 = at_ := Int.tmod_eq_of_lt hat.1 (by omega)
  have hrem2 : wrap64 at_ = at_ := by unfold wrap64; omega
  have wat : IntKind.i64.wrap at_ = at_ := IntWalk.i64_in _ (by omega)
  have q6 : w.cell? ⟨nb, 6, none⟩ = some (.int .i32 1073741824) := hN.cell 6
  have q7 : w.cell? ⟨nb, 7, none⟩ = some (.int .i32 0) := hN.cell 7
  have q8 : w.cell? ⟨nb, 8, none⟩ = some (.int .i32 0) := hN.cell 8
  have q9 : w.cell? ⟨nb, 9, none⟩ = some (.int .i32 0) := hN.cell 9
  have q10 : w.cell? ⟨nb, 10, none⟩ = some (.int .i32 0) := hN.cell 10
  have q11 : w.cell? ⟨nb, 11, none⟩ = some (.int .i32 0) := hN.cell 11
  have q12 : w.cell? ⟨nb, 12, none⟩ = some (.int .i32 0) := hN.cell 12
  have q13 : w.cell? ⟨nb, 13, none⟩ = some (.int .i64 0) := hN.cell 13
  have q14 : w.cell? ⟨nb, 14, none⟩ = some (.int .i64 0) := hN.cell 14
  have q5 : w.cell? ⟨nb, 5, none⟩ = some (.pointer (some ⟨db, 0, none⟩)) := hN.cell 5
  have hK := (Kept.refl (PT1 nb (.slice O n c)) w).alloc (.cells #[.int .i32 1073741824, .int .i32 0, .int .i32 0, .int .i32 0, .int .i32 0, .int .i32 0, .int .i32 0, .int .i64 0, .int .i64 0] 83)
  have hN1 := hN.alloc (.cells #[.int .i32 1073741824, .int .i32 0, .int .i32 0, .int .i32 0, .int .i32 0, .int .i32 0, .int .i32 0, .int .i64 0, .int .i64 0] 83)
  have hO1 := hO.alloc (.cells #[.int .i32 1073741824, .int .i32 0, .int .i32 0, .int .i32 0, .int .i32 0, .int .i32 0, .int .i32 0, .int .i64 0, .int .i64 0] 83)
  have hD1 := hD.alloc (.cells #[.int .i32 1073741824, .int .i32 0, .int .i32 0, .int .i32 0, .int .i32 0, .int .i32 0, .int .i32 0, .int .i64 0, .int .i64 0] 83)
  have e1 := Blk.new w 83 #[.int .i32 1073741824, .int .i32 0, .int .i32 0, .int .i32 0, .int .i32 0, .int .i32 0, .int .i32 0, .int .i64 0, .int .i64 0]
  have hb1 : base ≤ (w.alloc (.cells #[.int .i32 1073741824, .int .i32 0, .int .i32 0, .int .i32 0, .int .i32 0, .int .i32 0, .int .i32 0, .int .i64 0, .int .i64 0] 83)).heap.size := by simp; omega
  go_enter Tryz.func51, Tryz.ntmps51
  go_upto_region 2 with fail
  generalize w.alloc (.cells #[.int .i32 1073741824, .int .i32 0, .int .i32 0, .int .i32 0, .int .i32 0, .int .i32 0, .int .i32 0, .int .i64 0, .int .i64 0] 83) = W0 at *
  clear q5 q6 q7 q8 q9 q10 q11 q12 q13 q14
  have q5 : W0.cell? ⟨nb, 5, none⟩ = some (.pointer (some ⟨db, 0, none⟩)) := hN1.cell 5
  go_wp2_with fail
  refine (HC.out W0 hD1).mono ?_
  rintro e w1 ⟨rfl, b1⟩
  replace hN1 := hN1.below b1 hN1.lt
  replace hO1 := hO1.below b1 (Nat.le_refl _)
  replace hK := hK.trans (Kept.of_below b1)
  replace hb1 := Nat.le_trans hb1 b1.size
  clear b1 q5 hD1 e1
  go_wp2_with fail
  refine wp_loop_rounds 5 ?_
  rw [rounds_succ]
  go_wp2_with fail
  rw [rounds_succ]
  go_wp2_with fail
  rw [rounds_succ]
  go_wp2_with fail
  rw [rounds_succ]
  go_wp2_with fail
  rw [rounds_succ]
  go_wp2_with fail
  have bv := Blk.new w1 2 #[.int .i64 6, .int .i64 8, .int .i64 0, .int .i64 0, .int .i64 4, .int .i64 3]
  replace hN1 := hN1.alloc (.cells #[.int .i64 6, .int .i64 8, .int .i64 0, .int .i64 0, .int .i64 4, .int .i64 3] 2)
  replace hO1 := hO1.alloc (.cells #[.int .i64 6, .int .i64 8, .int .i64 0, .int .i64 0, .int .i64 4, .int .i64 3] 2)
  replace hK := hK.alloc (.cells #[.int .i64 6, .int .i64 8, .int .i64 0, .int .i64 0, .int .i64 4, .int .i64 3] 2)
  have hlt : w1.heap.size < (w1.alloc (.cells #[.int .i64 6, .int .i64 8, .int .i64 0, .int .i64 0, .int .i64 4, .int .i64 3] 2)).heap.size := by simp
  generalize w1.alloc (.cells #[.int .i64 6, .int .i64 8, .int .i64 0, .int .i64 0, .int .i64 4, .int .i64 3] 2) = W2 at *
  refine (n_send0 nb base n c 6 O (some ⟨w1.heap.size, 0, none⟩) s [6, 8, 0, 0, 4, 3] _ evs W2 hs hN1 hO1 (by omega) hn (Row.blk bv rfl hlt) vk0).mono ?_
  intro e w3 h3
  have HF2 := hid (h3.from_ hK)
  have he := h3.1
  subst he
  clear h3 hN1 hO1 hK bv
  go_wp2_with fail
  go_end0
  exact HF2.out
end Go.Proofs.YtldoocndhfgjhaaGreat
