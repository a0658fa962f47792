/- Chapter 43: what is due. -/
import Derived.Test.YtldoocndhfgjhaaGreatDueD
import Derived.Test.YtldoocndhfgjhaaGreatDueC
namespace Go.Proofs.YtldoocndhfgjhaaGreat
open Go.RowKit
set_option linter.unusedVariables false
set_option linter.unusedSimpArgs false

theorem d_there (q mb : Nat) (v : Value) (w : World) (hQ : Blk w q 130 #[v, .map (some mb)]) : Calls Tryz.prog 27 #[.pointer (some ⟨q, 0, none⟩)] w fun e w' => e = .returned (.bool true) ∧ w' = w := by
  have q1 : w.cell? ⟨q, 1, none⟩ = some (.map (some mb)) := hQ.cell 1
  have qT : ∀ (w : World) (r : Option Nat), (binOp .neq 126 (.map r) (.map none)).run Tryz.prog w = .ok (.bool (!r.isNone)) w := fun w r => run_neq_map_nil w _ _ _ r Tryz.underlying126
  clear hQ
  go_enter Tryz.func27, Tryz.ntmps27
  go_wp2
  go_ret
  exact ⟨rfl, rfl⟩
theorem d_QLen (q n c mb : Nat) (A : Option Addr) (w : World) (hQ : Blk w q 130 #[.slice A n c, .map (some mb)]) : Calls Tryz.prog 84 #[.pointer (some ⟨q, 0, none⟩)] w fun e w' => e = .returned (.int .i64 n) ∧ w' = w := by
  have q0 : w.cell? ⟨q, 0, none⟩ = some (.slice A n c) := hQ.cell 0
  have H := hid (d_there q mb _ w hQ)
  clear hQ
  go_enter Tryz.func84, Tryz.ntmps84
  go_wp2_with fail
  refine H.out.mono ?_
  rintro e w1 ⟨rfl, rfl⟩
  go_wp2_with fail
  refine (d_Len A n c w1).mono ?_
  rintro e w2 ⟨rfl, rfl⟩
  go_wp2
  go_ret
  exact ⟨rfl, rfl⟩
set_option maxRecDepth 20000 in
theorem d_Next_none (q g c ta tb mb : Nat) (now ia aa ea pa ib ab eb pb : Int) (cs : List Value) (w : World) (hQ : Blk w q 130 #[.slice (some ⟨g, 0, none⟩) 2 c, .map (some mb)]) (hG : Blk w g 140 ((.pointer (some ⟨ta, 0, none⟩)) :: (.pointer (some ⟨tb, 0, none⟩)) :: cs).toArray) (hA : Blk w ta 142 #[.int .i64 ia, .int .i64 aa, .int .i64 ea, .int .i64 pa]) (hB : Blk w tb 142 #[.int .i64 ib, .int .i64 ab, .int .i64 eb, .int .i64 pb]) (hn : 0 ≤ now ∧ now ≤ 1099511627776) (hlt : now < aa) :
    Calls Tryz.prog 50 #[.pointer (some ⟨q, 0, none⟩), .int .i64 now] w fun e w' => e = .returned (.tuple #[.int .i64 0, .int .i64 0, .bool false]) ∧ w' = w := by
  have HL := hid (d_QLen q 2 c mb (some ⟨g, 0, none⟩) w hQ)
  have m1 : min now 1099511627776 = now := by omega
  have m2 : (if (1099511627776 : Int) < now then (1099511627776 : Int) else now) = now := by split <;> omega
  have m3 : (if now < (1099511627776 : Int) then now else (1099511627776 : Int)) = now := by split <;> omega
  have m4 : (if now ≤ (1099511627776 : Int) then now else (1099511627776 : Int)) = now := by split <;> omega
  have q0 : w.cell? ⟨q, 0, none⟩ = some (.slice (some ⟨g, 0, none⟩) 2 c) := hQ.cell 0
  have g0 : w.cell? ⟨g, 0, none⟩ = some (.pointer (some ⟨ta, 0, none⟩)) := hG.cell 0
  have a1 : w.cell? ⟨ta, 1, none⟩ = some (.int .i64 aa) := hA.cell 1
  have a2 : w.cell? ⟨ta, 2, none⟩ = some (.int .i64 ea) := hA.cell 2
  have d1 : decide (now < aa) = true := decide_eq_true hlt
  clear hQ hG hA hB
  go_enter Tryz.func50, Tryz.ntmps50
  go_wp2_with fail
  refine HL.out.mono ?_
  rintro e w1 ⟨rfl, rfl⟩
  go_wp2
  go_ret3
  exact ⟨rfl, rfl⟩
set_option maxRecDepth 20000 in
set_option maxHeartbeats 4000000 in
theorem d_Next_no (q g c ta tb mb : Nat) (now ia aa ea pa ib ab eb pb : Int) (cs : List Value) (w : World) (hQ : Blk w q 130 #[.slice (some ⟨g, 0, none⟩) 2 c, .map (some mb)]) (hG : Blk w g 140 ((.pointer (some ⟨ta, 0, none⟩)) :: (.pointer (some ⟨tb, 0, none⟩)) :: cs).toArray) (hA : Blk w ta 142 #[.int .i64 ia, .int .i64 aa, .int .i64 ea, .int .i64 pa]) (hB : Blk w tb 142 #[.int .i64 ib, .int .i64 ab, .int .i64 eb, .int .i64 pb]) (h1 : ta ≠ tb) (h2 : g ≠ ta) (h3 : g ≠ tb) (h4 : q ≠ g) (h5 : q ≠ ta) (h6 : q ≠ tb) (hn : 0 ≤ now ∧ now ≤ 1099511627776) (hlt : aa ≤ now) (ha : 0 ≤ aa) (he : 0 < ea ∧ ea ≤ 1000000) (hbef : befP ib ab ia (aa + ea) = false) :
    Calls Tryz.prog 50 #[.pointer (some ⟨q, 0, none⟩), .int .i64 now] w fun e w' => e = .returned (.tuple #[.int .i64 ia, .int .i64 aa, .bool true]) ∧ Blk w' g 140 ((.pointer (some ⟨ta, 0, none⟩)) :: (.pointer (some ⟨tb, 0, none⟩)) :: cs).toArray ∧ Blk w' ta 142 #[.int .i64 ia, .int .i64 (aa + ea), .int .i64 ea, .int .i64 pa] ∧ Blk w' tb 142 #[.int .i64 ib, .int .i64 ab, .int .i64 eb, .int .i64 pb] ∧ Kept (P3 g ta tb) w w' := by
  have HL := hid (d_QLen q 2 c mb (some ⟨g, 0, none⟩) w hQ)
  have m1 : min now 1099511627776 = now := by omega
  have m2 : (if (1099511627776 : Int) < now then (1099511627776 : Int) else now) = now := by split <;> omega
  have m3 : (if now < (1099511627776 : Int) then now else (1099511627776 : Int)) = now := by split <;> omega
  have m4 : (if now ≤ (1099511627776 : Int) then now else (1099511627776 : Int)) = now := by split <;> omega
  have q0 : w.cell? ⟨q, 0, none⟩ = some (.slice (some ⟨g, 0, none⟩) 2 c) := hQ.cell 0
  have g0 : w.cell? ⟨g, 0, none⟩ = some (.pointer (some ⟨ta, 0, none⟩)) := hG.cell 0
  have a1 : w.cell? ⟨ta, 1, none⟩ = some (.int .i64 aa) := hA.cell 1
  have a2 : w.cell? ⟨ta, 2, none⟩ = some (.int .i64 ea) := hA.cell 2
  have d1 : decide (now < aa) = false := decide_eq_false (by omega)
  have d2 : (ea == 0) = false := by simp; omega
  have d3 : decide (ea = 0) = false := decide_eq_false (by omega)
  have d4 : ¬ (ea = 0) := by omega
  obtain ⟨an, han⟩ : ∃ an, aa + ea = an := ⟨_, rfl⟩
  have ue : IntKind.i64.wrap (aa + ea) = an := (IntWalk.i64_in _ (by omega)).trans han
  rw [han] at hbef ⊢
  clear han
  go_enter Tryz.func50, Tryz.ntmps50
  go_wp2_with fail
  refine HL.out.mono ?_
  rintro e w1 ⟨rfl, rfl⟩
  go_upto_region 8 with fail
  clear q0 g0 a1 a2
  have hK := Kept.refl (P3 g ta tb) w1
  refine wp_region_noPanic ?_
  refine wp_region_held_drew (S := (fun w' : World => w'.cell? ⟨ta, 2, none⟩ = some (.int .i64 ea))) (by kernel_rfl) (hA.cell 2) (fun hHeld => ?_)
  refine (show wpAnyH _ _ _ _ _ 12 _ _ _ from ?_)
  try (simp only [Act.put, List.setIfInBounds_toArray, List.set_cons_zero, List.set_cons_succ])
  replace hQ := hQ.drew
  replace hG := hG.drew
  replace hA := hA.drew
  replace hB := hB.drew
  replace hK := hK.drew
  generalize w1.drew = V0 at *
  refine tk 0 hHeld ?_
  refine tk 1 hHeld ?_
  refine tk 2 hHeld ?_
  refine tk 4 hHeld ?_
  refine tk 5 hHeld ?_
  refine tk 6 hHeld ?_
  refine tk 7 hHeld ?_
  refine rd1 3 (fun K hKK => ?_)
  have cc : V0.cell? ⟨ta, 1, none⟩ = some (.int .i64 aa) := hA.cell 1
  go_simp
  try go_wp2_with fail
  clear cc
  refine hKK.out _ _ (hA.cell 2) (fun hHeld => ?_)
  clear hKK K
  try (simp only [Act.put, List.setIfInBounds_toArray, List.set_cons_zero, List.set_cons_succ])
  refine tk 8 hHeld ?_
  refine tk 9 hHeld ?_
  refine tk 10 hHeld ?_
  refine rd1 11 (fun K hKK => ?_)
  have cc : V0.cell? ⟨ta, 1, none⟩ = some (.int .i64 aa) := hA.cell 1
  have zz := hA.frozen 1
  go_simp
  try go_wp2_with fail
  clear cc zz
  have hA1 := hA.set_ 1 (.int .i64 an)
  simp only [List.setIfInBounds_toArray, List.set_cons_zero, List.set_cons_succ] at hA1
  have hQ1 := hQ.far (p := ⟨ta, 1, none⟩) (by dsimp only; omega) (.int .i64 an)
  have hG1 := hG.far (p := ⟨ta, 1, none⟩) (by dsimp only; omega) (.int .i64 an)
  have hB1 := hB.far (p := ⟨ta, 1, none⟩) (by dsimp only; omega) (.int .i64 an)
  replace hK := hK.set_ (p := ⟨ta, 1, none⟩) (Or.inl (Or.inr (Or.inl rfl))) (.int .i64 an)
  clear hQ hG hA hB
  generalize V0.setCell ⟨ta, 1, none⟩ (.int .i64 an) = W1 at *
  refine hKK.out _ _ (hA1.cell 2) (fun hHeld => ?_)
  clear hKK K
  try (simp only [Act.put, List.setIfInBounds_toArray, List.set_cons_zero, List.set_cons_succ])
  refine wpAnyH_done (by kernel_rfl) ?_ _
  refine NoPanic.normal ?_
  clear hHeld
  go_wp2_with fail
  refine (h_Fix_no q g c ta tb (.map (some mb)) ia an ea pa ib ab eb pb cs W1 hQ1 hG1 hA1 hB1 hbef).mono ?_
  rintro e w2 ⟨rfl, b2⟩
  have G2 := hG1.below b2 hG1.lt
  have A2 := hA1.below b2 hA1.lt
  have B2 := hB1.below b2 hB1.lt
  have hk := hK.trans (Kept.of_below b2)
  have H1 := hid G2
  have H2 := hid A2
  have H3 := hid B2
  have a0 : w2.cell? ⟨ta, 0, none⟩ = some (.int .i64 ia) := A2.cell 0
  clear G2 A2 B2 hQ1 hG1 hA1 hB1
  go_wp2_with fail
  go_ret3
  exact ⟨rfl, H1.out, H2.out, H3.out, hk⟩
set_option maxRecDepth 20000 in
set_option maxHeartbeats 4000000 in
theorem d_Next_yes (q g c ta tb mb : Nat) (now ia aa ea pa ib ab eb pb : Int) (cs : List Value) (w : World) (hQ : Blk w q 130 #[.slice (some ⟨g, 0, none⟩) 2 c, .map (some mb)]) (hG : Blk w g 140 ((.pointer (some ⟨ta, 0, none⟩)) :: (.pointer (some ⟨tb, 0, none⟩)) :: cs).toArray) (hA : Blk w ta 142 #[.int .i64 ia, .int .i64 aa, .int .i64 ea, .int .i64 pa]) (hB : Blk w tb 142 #[.int .i64 ib, .int .i64 ab, .int .i64 eb, .int .i64 pb]) (h1 : ta ≠ tb) (h2 : g ≠ ta) (h3 : g ≠ tb) (h4 : q ≠ g) (h5 : q ≠ ta) (h6 : q ≠ tb) (hn : 0 ≤ now ∧ now ≤ 1099511627776) (hlt : aa ≤ now) (ha : 0 ≤ aa) (he : 0 < ea ∧ ea ≤ 1000000) (hbef : befP ib ab ia (aa + ea) = true) :
    Calls Tryz.prog 50 #[.pointer (some ⟨q, 0, none⟩), .int .i64 now] w fun e w' => e = .returned (.tuple #[.int .i64 ia, .int .i64 aa, .bool true]) ∧ Blk w' g 140 ((.pointer (some ⟨tb, 0, none⟩)) :: (.pointer (some ⟨ta, 0, none⟩)) :: cs).toArray ∧ Blk w' ta 142 #[.int .i64 ia, .int .i64 (aa + ea), .int .i64 ea, .int .i64 1] ∧ Blk w' tb 142 #[.int .i64 ib, .int .i64 ab, .int .i64 eb, .int .i64 0] ∧ Kept (P3 g ta tb) w w' := by
  have HL := hid (d_QLen q 2 c mb (some ⟨g, 0, none⟩) w hQ)
  have m1 : min now 1099511627776 = now := by omega
  have m2 : (if (1099511627776 : Int) < now then (1099511627776 : Int) else now) = now := by split <;> omega
  have m3 : (if now < (1099511627776 : Int) then now else (1099511627776 : Int)) = now := by split <;> omega
  have m4 : (if now ≤ (1099511627776 : Int) then now else (1099511627776 : Int)) = now := by split <;> omega
  have q0 : w.cell? ⟨q, 0, none⟩ = some (.slice (some ⟨g, 0, none⟩) 2 c) := hQ.cell 0
  have g0 : w.cell? ⟨g, 0, none⟩ = some (.pointer (some ⟨ta, 0, none⟩)) := hG.cell 0
  have a1 : w.cell? ⟨ta, 1, none⟩ = some (.int .i64 aa) := hA.cell 1
  have a2 : w.cell? ⟨ta, 2, none⟩ = some (.int .i64 ea) := hA.cell 2
  have d1 : decide (now < aa) = false := decide_eq_false (by omega)
  have d2 : (ea == 0) = false := by simp; omega
  have d3 : decide (ea = 0) = false := decide_eq_false (by omega)
  have d4 : ¬ (ea = 0) := by omega
  obtain ⟨an, han⟩ : ∃ an, aa + ea = an := ⟨_, rfl⟩
  have ue : IntKind.i64.wrap (aa + ea) = an := (IntWalk.i64_in _ (by omega)).trans han
  rw [han] at hbef ⊢
  clear han
  go_enter Tryz.func50, Tryz.ntmps50
  go_wp2_with fail
  refine HL.out.mono ?_
  rintro e w1 ⟨rfl, rfl⟩
  go_upto_region 8 with fail
  clear q0 g0 a1 a2
  have hK := Kept.refl (P3 g ta tb) w1
  refine wp_region_noPanic ?_
  refine wp_region_held_drew (S := (fun w' : World => w'.cell? ⟨ta, 2, none⟩ = some (.int .i64 ea))) (by kernel_rfl) (hA.cell 2) (fun hHeld => ?_)
  refine (show wpAnyH _ _ _ _ _ 12 _ _ _ from ?_)
  try (simp only [Act.put, List.setIfInBounds_toArray, List.set_cons_zero, List.set_cons_succ])
  replace hQ := hQ.drew
  replace hG := hG.drew
  replace hA := hA.drew
  replace hB := hB.drew
  replace hK := hK.drew
  generalize w1.drew = V0 at *
  refine tk 0 hHeld ?_
  refine tk 1 hHeld ?_
  refine tk 2 hHeld ?_
  refine tk 4 hHeld ?_
  refine tk 5 hHeld ?_
  refine tk 6 hHeld ?_
  refine tk 7 hHeld ?_
  refine rd1 3 (fun K hKK => ?_)
  have cc : V0.cell? ⟨ta, 1, none⟩ = some (.int .i64 aa) := hA.cell 1
  go_simp
  try go_wp2_with fail
  clear cc
  refine hKK.out _ _ (hA.cell 2) (fun hHeld => ?_)
  clear hKK K
  try (simp only [Act.put, List.setIfInBounds_toArray, List.set_cons_zero, List.set_cons_succ])
  refine tk 8 hHeld ?_
  refine tk 9 hHeld ?_
  refine tk 10 hHeld ?_
  refine rd1 11 (fun K hKK => ?_)
  have cc : V0.cell? ⟨ta, 1, none⟩ = some (.int .i64 aa) := hA.cell 1
  have zz := hA.frozen 1
  go_simp
  try go_wp2_with fail
  clear cc zz
  have hA1 := hA.set_ 1 (.int .i64 an)
  simp only [List.setIfInBounds_toArray, List.set_cons_zero, List.set_cons_succ] at hA1
  have hQ1 := hQ.far (p := ⟨ta, 1, none⟩) (by dsimp only; omega) (.int .i64 an)
  have hG1 := hG.far (p := ⟨ta, 1, none⟩) (by dsimp only; omega) (.int .i64 an)
  have hB1 := hB.far (p := ⟨ta, 1, none⟩) (by dsimp only; omega) (.int .i64 an)
  replace hK := hK.set_ (p := ⟨ta, 1, none⟩) (Or.inl (Or.inr (Or.inl rfl))) (.int .i64 an)
  clear hQ hG hA hB
  generalize V0.setCell ⟨ta, 1, none⟩ (.int .i64 an) = W1 at *
  refine hKK.out _ _ (hA1.cell 2) (fun hHeld => ?_)
  clear hKK K
  try (simp only [Act.put, List.setIfInBounds_toArray, List.set_cons_zero, List.set_cons_succ])
  refine wpAnyH_done (by kernel_rfl) ?_ _
  refine NoPanic.normal ?_
  clear hHeld
  go_wp2_with fail
  refine (h_Fix_yes q g c ta tb (.map (some mb)) ia an ea pa ib ab eb pb cs W1 hQ1 hG1 hA1 hB1 h1 h2 h3 h4 h5 h6 hbef).mono ?_
  rintro e w2 ⟨rfl, G2, A2, B2, k2⟩
  have hk := hK.trans k2
  have H1 := hid G2
  have H2 := hid A2
  have H3 := hid B2
  have a0 : w2.cell? ⟨ta, 0, none⟩ = some (.int .i64 ia) := A2.cell 0
  clear G2 A2 B2 hQ1 hG1 hA1 hB1
  go_wp2_with fail
  go_ret3
  exact ⟨rfl, H1.out, H2.out, H3.out, hk⟩
end Go.Proofs.YtldoocndhfgjhaaGreat
namespace Go.Proofs.YtldoocndhfgjhaaGreat
open Go.RowKit
set_option linter.unusedVariables false
set_option linter.unusedSimpArgs false

/-- How many heartbeats stand among the first events, and how many words; when the next ones are due. -/
def bt (i : Nat) : Nat := (i + 1) / 11
def wd (i : Nat) : Nat := i - (i + 1) / 11
def dueB (i : Nat) : Int := 1000 * ((bt i : Nat) : Int) + 1000
def dueW (i : Nat) : Int := 100 * ((wd i : Nat) : Int) + 100
theorem due_beat (i : Nat) (h : i % 11 = 9) : dueB i ≤ dueW i ∧ dueB (i + 1) = dueB i + 1000 ∧ dueW (i + 1) = dueW i ∧ 0 ≤ dueB i := by
  unfold dueB dueW bt wd
  omega
theorem due_word (i : Nat) (h : ¬ i % 11 = 9) : dueW i < dueB i ∧ dueB (i + 1) = dueB i ∧ dueW (i + 1) = dueW i + 100 ∧ 0 ≤ dueW i := by
  unfold dueB dueW bt wd
  omega
/-- The two timers of a node, in their heap. -/
structure Tms (w : World) (q mb g cap tA tB : Nat) (a0 a1 : Int) : Prop where
  q_ : Blk w q 130 #[.slice (some ⟨g, 0, none⟩) 2 cap, .map (some mb)]
  ne : tA ≠ tB ∧ g ≠ tA ∧ g ≠ tB ∧ q ≠ g ∧ q ≠ tA ∧ q ≠ tB
  heap : ∃ cs : List Value, (befP 0 a0 1 a1 = true ∧ Blk w g 140 (.pointer (some ⟨tA, 0, none⟩) :: .pointer (some ⟨tB, 0, none⟩) :: cs).toArray ∧ Blk w tA 142 #[.int .i64 0, .int .i64 a0, .int .i64 1000, .int .i64 0] ∧ Blk w tB 142 #[.int .i64 1, .int .i64 a1, .int .i64 100, .int .i64 1]) ∨
    (befP 0 a0 1 a1 = false ∧ Blk w g 140 (.pointer (some ⟨tB, 0, none⟩) :: .pointer (some ⟨tA, 0, none⟩) :: cs).toArray ∧ Blk w tA 142 #[.int .i64 0, .int .i64 a0, .int .i64 1000, .int .i64 1] ∧ Blk w tB 142 #[.int .i64 1, .int .i64 a1, .int .i64 100, .int .i64 0])
theorem Tms.keptP {P : Nat → Prop} {w w' : World} {q mb g cap tA tB : Nat} {a0 a1 : Int} (h : Tms w q mb g cap tA tB a0 a1) (hk : Kept P w w') (hP : ∀ i t cs, P i → Blk w i t cs → t = 130 ∨ t = 140 ∨ t = 142 → False) : Tms w' q mb g cap tA tB a0 a1 := by
  refine ⟨hk.blk h.q_ (fun hp => hP _ _ _ hp h.q_ (Or.inl rfl)), h.ne, ?_⟩
  obtain ⟨cs, ⟨hb, h1, h2, h3⟩ | ⟨hb, h1, h2, h3⟩⟩ := h.heap
  · exact ⟨cs, .inl ⟨hb, hk.blk h1 (fun hp => hP _ _ _ hp h1 (Or.inr (Or.inl rfl))), hk.blk h2 (fun hp => hP _ _ _ hp h2 (Or.inr (Or.inr rfl))), hk.blk h3 (fun hp => hP _ _ _ hp h3 (Or.inr (Or.inr rfl)))⟩⟩
  · exact ⟨cs, .inr ⟨hb, hk.blk h1 (fun hp => hP _ _ _ hp h1 (Or.inr (Or.inl rfl))), hk.blk h2 (fun hp => hP _ _ _ hp h2 (Or.inr (Or.inr rfl))), hk.blk h3 (fun hp => hP _ _ _ hp h3 (Or.inr (Or.inr rfl)))⟩⟩
theorem bef01 (a0 a1 : Int) : befP 0 a0 1 a1 = decide (a0 ≤ a1) := by
  unfold befP
  by_cases h : a0 < a1
  · simp [h]; omega
  · by_cases h2 : a0 = a1
    · simp [h2]
    · simp [h, h2]; omega
theorem bef10 (a0 a1 : Int) : befP 1 a1 0 a0 = decide (a1 < a0) := by
  unfold befP
  by_cases h : a1 < a0
  · simp [h]
  · simp [h]
theorem t_none (q mb g cap tA tB : Nat) (a0 a1 now : Int) (w : World) (h : Tms w q mb g cap tA tB a0 a1) (hn : 0 ≤ now ∧ now ≤ 1099511627776) (h0 : now < a0) (h1 : now < a1) :
    Calls Tryz.prog 50 #[.pointer (some ⟨q, 0, none⟩), .int .i64 now] w fun e w' => e = .returned (.tuple #[.int .i64 0, .int .i64 0, .bool false]) ∧ w' = w := by
  obtain ⟨cs, ⟨hb, hG, hA, hB⟩ | ⟨hb, hG, hA, hB⟩⟩ := h.heap
  · exact d_Next_none q g cap tA tB mb now 0 a0 1000 0 1 a1 100 1 cs w h.q_ hG hA hB hn h0
  · exact d_Next_none q g cap tB tA mb now 1 a1 100 0 0 a0 1000 1 cs w h.q_ hG hB hA hn h1
theorem t_beat (q mb g cap tA tB : Nat) (a0 a1 now : Int) (w : World) (h : Tms w q mb g cap tA tB a0 a1) (hn : 0 ≤ now ∧ now ≤ 1099511627776) (h0 : 0 ≤ a0) (h1 : a0 ≤ a1) (h2 : a0 ≤ now) :
    Calls Tryz.prog 50 #[.pointer (some ⟨q, 0, none⟩), .int .i64 now] w fun e w' => e = .returned (.tuple #[.int .i64 0, .int .i64 a0, .bool true]) ∧ Tms w' q mb g cap tA tB (a0 + 1000) a1 ∧ Kept (P3 g tA tB) w w' := by
  obtain ⟨n1, n2, n3, n4, n5, n6⟩ := h.ne
  obtain ⟨cs, ⟨hb, hG, hA, hB⟩ | ⟨hb, _⟩⟩ := h.heap
  · cases hc : befP 1 a1 0 (a0 + 1000) with
    | false =>
      refine (d_Next_no q g cap tA tB mb now 0 a0 1000 0 1 a1 100 1 cs w h.q_ hG hA hB n1 n2 n3 n4 n5 n6 hn h2 h0 (by omega) hc).mono ?_
      rintro e w' ⟨rfl, k1, k2, k3, k4⟩
      refine ⟨rfl, ⟨k4.blk h.q_ (fun hp => by rcases hp with hp | hp | hp <;> omega), h.ne, cs, .inl ⟨?_, k1, k2, k3⟩⟩, k4⟩
      rw [bef10] at hc
      rw [bef01]
      have := of_decide_eq_false hc
      exact decide_eq_true (by omega)
    | true =>
      refine (d_Next_yes q g cap tA tB mb now 0 a0 1000 0 1 a1 100 1 cs w h.q_ hG hA hB n1 n2 n3 n4 n5 n6 hn h2 h0 (by omega) hc).mono ?_
      rintro e w' ⟨rfl, k1, k2, k3, k4⟩
      refine ⟨rfl, ⟨k4.blk h.q_ (fun hp => by rcases hp with hp | hp | hp <;> omega), h.ne, cs, .inr ⟨?_, k1, k2, k3⟩⟩, k4⟩
      rw [bef10] at hc
      rw [bef01]
      have := of_decide_eq_true hc
      exact decide_eq_false (by omega)
  · rw [bef01] at hb
    exact absurd h1 (of_decide_eq_false hb)
theorem t_word (q mb g cap tA tB : Nat) (a0 a1 now : Int) (w : World) (h : Tms w q mb g cap tA tB a0 a1) (hn : 0 ≤ now ∧ now ≤ 1099511627776) (h0 : 0 ≤ a1) (h1 : a1 < a0) (h2 : a1 ≤ now) :
    Calls Tryz.prog 50 #[.pointer (some ⟨q, 0, none⟩), .int .i64 now] w fun e w' => e = .returned (.tuple #[.int .i64 1, .int .i64 a1, .bool true]) ∧ Tms w' q mb g cap tA tB a0 (a1 + 100) ∧ Kept (P3 g tA tB) w w' := by
  obtain ⟨n1, n2, n3, n4, n5, n6⟩ := h.ne
  obtain ⟨cs, ⟨hb, _⟩ | ⟨hb, hG, hA, hB⟩⟩ := h.heap
  · rw [bef01] at hb
    have := of_decide_eq_true hb
    omega
  · have hsw : ∀ i, P3 g tB tA i → P3 g tA tB i := fun i hi => by rcases hi with hi | hi | hi <;> simp [P3, hi]
    cases hc : befP 0 a0 1 (a1 + 100) with
    | false =>
      refine (d_Next_no q g cap tB tA mb now 1 a1 100 0 0 a0 1000 1 cs w h.q_ hG hB hA (Ne.symm n1) n3 n2 n4 n6 n5 hn h2 h0 (by omega) hc).mono ?_
      rintro e w' ⟨rfl, k1, k2, k3, k4⟩
      exact ⟨rfl, ⟨k4.blk h.q_ (fun hp => by rcases hp with hp | hp | hp <;> omega), h.ne, cs, .inr ⟨hc, k1, k3, k2⟩⟩, k4.mono hsw⟩
    | true =>
      refine (d_Next_yes q g cap tB tA mb now 1 a1 100 0 0 a0 1000 1 cs w h.q_ hG hB hA (Ne.symm n1) n3 n2 n4 n6 n5 hn h2 h0 (by omega) hc).mono ?_
      rintro e w' ⟨rfl, k1, k2, k3, k4⟩
      exact ⟨rfl, ⟨k4.blk h.q_ (fun hp => by rcases hp with hp | hp | hp <;> omega), h.ne, cs, .inl ⟨hc, k1, k3, k2⟩⟩, k4.mono hsw⟩
end Go.Proofs.YtldoocndhfgjhaaGreat
