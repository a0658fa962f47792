/- Chapter 24: three numbers. -/
import Derived.Test.YtbhfidneijogfaaClkG
import Derived.Deep.CutRange
import Derived.Shelf.Abstract
namespace Go.Proofs.Ytbhfidneijogfaa
open Go.RowKit
set_option linter.unusedVariables false
set_option linter.unusedSimpArgs false
attribute [local go_sem] Oper.semAt_some

def valP (pre : List (Int × Bool)) (k : Nat) : Int := (pre[k]?.getD (0, false)).1
def outC (pre : List (Int × Bool)) : Array Value := #[.int .i64 (valP pre 0), .int .i64 (valP pre 1), .int .i64 (valP pre 2)]
theorem outC_app (pre : List (Int × Bool)) (x : Int × Bool) (h : pre.length < 3) : (outC pre).setIfInBounds pre.length (.int .i64 x.1) = outC (pre ++ [x]) := by
  match pre, h with
  | [], _ => rfl
  | [a], _ => rfl
  | [a, b], _ => rfl
theorem outC_at (pre : List (Int × Bool)) (k : Nat) (h : k < 3) : ∃ x, (outC pre)[k]? = some (.int .i64 x) := by
  match k, h with
  | 0, _ => exact ⟨_, rfl⟩
  | 1, _ => exact ⟨_, rfl⟩
  | 2, _ => exact ⟨_, rfl⟩
theorem results_3b (w : World) (tmps : Array Value) (g h : Nat) (a b c v : Value) (h2 : tmps.getD 2 undef = .pointer (some ⟨g, 0, none⟩)) (h3 : tmps.getD 3 undef = .pointer (some ⟨h, 0, none⟩))
    (hg : Blk w g 94 #[a, b, c]) (hh : Blk w h 4 #[v]) : (results Try.f74 tmps).run Try.prog w = .ok (.tuple #[.agg #[a, b, c], v]) w := by
  have f0 := hg.cell 0
  have f1 := hg.cell 1
  have f2 := hg.cell 2
  have f3 := hh.cell 0
  simp at f0 f1 f2 f3
  simp at h2 h3
  simp only [results, Try.f74]
  simp [h2, h3]
  go_simp
def AllOk (pre : List (Int × Bool)) : Prop := ∀ x ∈ pre, x.2 = true
/-- Are all six digits? -/
def sixB (s : ByteArray) : Bool := decide (s.size = 6) && (pairsL s).all (·.2)
def Three (s : ByteArray) (w : World) (e : Ending) (w' : World) : Prop :=
  (sixB s = true ∧ e = .returned (.tuple #[.agg #[.int .i64 (valP (pairsL s) 0), .int .i64 (valP (pairsL s) 1), .int .i64 (valP (pairsL s) 2)], .bool true]) ∧ Below w.heap.size w w') ∨
  (sixB s = false ∧ (∃ a b c : Int, e = .returned (.tuple #[.agg #[.int .i64 a, .int .i64 b, .int .i64 c], .bool false])) ∧ Below w.heap.size w w')
set_option maxRecDepth 20000 in
set_option maxHeartbeats 4000000 in
theorem c_threeN (s : ByteArray) (w : World) (hs : ¬ s.size = 6) : Calls Try.prog 74 #[.string s] w (Three s w) := by
  have HN : Hid (sixB s = false) := hid (by unfold sixB; simp [hs])
  have HE : Hid (∀ e w', (∃ a b c : Int, e = .returned (.tuple #[.agg #[.int .i64 a, .int .i64 b, .int .i64 c], .bool false])) ∧ Below w.heap.size w w' → Three s w e w') := hid fun e w' h => .inr ⟨HN.out, h.1, h.2⟩
  refine callsIn_wide.1 (callsIn_of_wp_marks (n := 3) Try.func74 rfl trivial ?_ rfl)
  simp only [Try.ntmps74, List.size_toArray, List.length_cons, List.length_nil, Nat.reduceAdd, Nat.reduceSub, Array.replicate_succ, Array.replicate_zero, List.push_toArray, List.append_toArray, List.nil_append, List.cons_append]
  refine wpIn_wide.2 ?_
  have d6 : ((s.size : Int) == 6) = false := by simp; omega
  have d6b : ((s.size : Int) != 6) = true := by simp; omega
  have d6c : decide ((s.size : Int) = 6) = false := by simp; omega
  have d6d : (s.size == 6) = false := by simp; omega
  clear hs
  have e2 := ((Blk.new w 94 #[.int .i64 0, .int .i64 0, .int .i64 0]).alloc (.cells #[.bool false] 4)).alloc (.cells #[.int .i64 0, .int .i64 0, .int .i64 0] 94)
  have e3 := (Blk.new (w.alloc (.cells #[.int .i64 0, .int .i64 0, .int .i64 0] 94)) 4 #[.bool false]).alloc (.cells #[.int .i64 0, .int .i64 0, .int .i64 0] 94)
  have e4 := Blk.new ((w.alloc (.cells #[.int .i64 0, .int .i64 0, .int .i64 0] 94)).alloc (.cells #[.bool false] 4)) 94 #[.int .i64 0, .int .i64 0, .int .i64 0]
  simp only [World.size_alloc] at e3 e4
  have hb := (((Below.refl w.heap.size w).alloc (Nat.le_refl _) (.cells #[.int .i64 0, .int .i64 0, .int .i64 0] 94)).alloc (by simp) (.cells #[.bool false] 4)).alloc (by simp; omega) (.cells #[.int .i64 0, .int .i64 0, .int .i64 0] 94)
  go_upto_region 2 with (fail)
  generalize (((w.alloc (.cells #[.int .i64 0, .int .i64 0, .int .i64 0] 94)).alloc (.cells #[.bool false] 4)).alloc (.cells #[.int .i64 0, .int .i64 0, .int .i64 0] 94)) = W at *
  have a0 : W.cell? ⟨w.heap.size + 1 + 1, 0, none⟩ = some (.int .i64 0) := e4.cell 0
  have a1 : W.cell? ⟨w.heap.size + 1 + 1, 1, none⟩ = some (.int .i64 0) := e4.cell 1
  have a2 : W.cell? ⟨w.heap.size + 1 + 1, 2, none⟩ = some (.int .i64 0) := e4.cell 2
  have c0 : W.cell? ⟨w.heap.size, 0, none⟩ = some (.int .i64 0) := e2.cell 0
  have c1 : W.cell? ⟨w.heap.size, 1, none⟩ = some (.int .i64 0) := e2.cell 1
  have c2 : W.cell? ⟨w.heap.size, 2, none⟩ = some (.int .i64 0) := e2.cell 2
  have z0 := e2.frozen 0
  have z1 := e2.frozen 1
  have z2 := e2.frozen 2
  have d0 : W.cell? ⟨w.heap.size + 1, 0, none⟩ = some (.bool false) := e3.cell 0
  have y0 := e3.frozen 0
  go_wp2_with fail
  have t2 := (((e2.set_ 0 (.int .i64 0)).set_ 1 (.int .i64 0)).set_ 2 (.int .i64 0)).far (p := ⟨w.heap.size + 1, 0, none⟩) (by simp) (.bool false)
  have t3 := (((e3.far (p := ⟨w.heap.size, 0, none⟩) (by simp) (.int .i64 0)).far (p := ⟨w.heap.size, 1, none⟩) (by simp) (.int .i64 0)).far (p := ⟨w.heap.size, 2, none⟩) (by simp) (.int .i64 0)).set_ 0 (.bool false)
  have tb := ((((hb.setCell (p := ⟨w.heap.size, 0, none⟩) (by simp) (.int .i64 0)).setCell (p := ⟨w.heap.size, 1, none⟩) (by simp) (.int .i64 0)).setCell (p := ⟨w.heap.size, 2, none⟩) (by simp) (.int .i64 0)).setCell (p := ⟨w.heap.size + 1, 0, none⟩) (by simp) (.bool false))
  refine ⟨_, results_3b _ _ w.heap.size (w.heap.size + 1) _ _ _ _ rfl rfl t2 t3, ?_⟩
  exact HE.out _ _ ⟨⟨0, 0, 0, rfl⟩, tb⟩
set_option maxRecDepth 20000 in
set_option maxHeartbeats 8000000 in
theorem c_three6 (s : ByteArray) (w : World) (hs : s.size = 6) : Calls Try.prog 74 #[.string s] w (Three s w) := by
  have hmf : ∀ (fn : Fn) (first cap : Array Value) (w : World), (Instr.makeFunc fn first cap).run Try.prog w = .ok (.func fn first cap) w := fun _ _ _ _ => rfl
  have HP := hid (c_pairs s)
  have hpl := pairsL_len s
  rw [hs] at hpl
  have HY : Hid ((pairsL s).all (·.2) = true → ∀ e w', e = .returned (.tuple #[.agg #[.int .i64 (valP (pairsL s) 0), .int .i64 (valP (pairsL s) 1), .int .i64 (valP (pairsL s) 2)], .bool true]) ∧ Below w.heap.size w w' → Three s w e w') := hid fun h e w' g => .inl ⟨by unfold sixB; simp [hs, h], g.1, g.2⟩
  have HE : Hid ((∃ k, ∃ x ∈ (pairsL s).take k, x.2 = false) → ∀ e w', (∃ a b c : Int, e = .returned (.tuple #[.agg #[.int .i64 a, .int .i64 b, .int .i64 c], .bool false])) ∧ Below w.heap.size w w' → Three s w e w') := hid fun h e w' g => .inr ⟨by
    obtain ⟨k, x, hx, hx2⟩ := h
    unfold sixB
    simp only [Bool.and_eq_false_iff]
    right
    rw [List.all_eq_false]
    exact ⟨x, List.mem_of_mem_take hx, by rw [hx2]; simp⟩, g.1, g.2⟩
  refine callsIn_wide.1 (callsIn_of_wp_marks (n := 3) Try.func74 rfl trivial ?_ rfl)
  simp only [Try.ntmps74, List.size_toArray, List.length_cons, List.length_nil, Nat.reduceAdd, Nat.reduceSub, Array.replicate_succ, Array.replicate_zero, List.push_toArray, List.append_toArray, List.nil_append, List.cons_append]
  refine wpIn_wide.2 ?_
  have HSZ := hid hs
  have e2 := ((Blk.new w 94 #[.int .i64 0, .int .i64 0, .int .i64 0]).alloc (.cells #[.bool false] 4)).alloc (.cells #[.int .i64 0, .int .i64 0, .int .i64 0] 94)
  have e3 := (Blk.new (w.alloc (.cells #[.int .i64 0, .int .i64 0, .int .i64 0] 94)) 4 #[.bool false]).alloc (.cells #[.int .i64 0, .int .i64 0, .int .i64 0] 94)
  have e4 := Blk.new ((w.alloc (.cells #[.int .i64 0, .int .i64 0, .int .i64 0] 94)).alloc (.cells #[.bool false] 4)) 94 #[.int .i64 0, .int .i64 0, .int .i64 0]
  simp only [World.size_alloc] at e3 e4
  have hb := (((Below.refl w.heap.size w).alloc (Nat.le_refl _) (.cells #[.int .i64 0, .int .i64 0, .int .i64 0] 94)).alloc (by simp) (.cells #[.bool false] 4)).alloc (by simp; omega) (.cells #[.int .i64 0, .int .i64 0, .int .i64 0] 94)
  replace e2 := e2.alloc (.cells #[.int .i64 0] 3)
  replace e3 := e3.alloc (.cells #[.int .i64 0] 3)
  replace e4 := e4.alloc (.cells #[.int .i64 0] 3)
  have e5 := Blk.new (((w.alloc (.cells #[.int .i64 0, .int .i64 0, .int .i64 0] 94)).alloc (.cells #[.bool false] 4)).alloc (.cells #[.int .i64 0, .int .i64 0, .int .i64 0] 94)) 3 #[.int .i64 0]
  simp only [World.size_alloc] at e5
  replace hb := hb.alloc hb.size (.cells #[.int .i64 0] 3)
  go_wp2_with fail
  have hsz : ((((w.alloc (.cells #[.int .i64 0, .int .i64 0, .int .i64 0] 94)).alloc (.cells #[.bool false] 4)).alloc (.cells #[.int .i64 0, .int .i64 0, .int .i64 0] 94)).alloc (.cells #[.int .i64 0] 3)).heap.size = w.heap.size + 1 + 1 + 1 + 1 := by simp
  generalize (((w.alloc (.cells #[.int .i64 0, .int .i64 0, .int .i64 0] 94)).alloc (.cells #[.bool false] 4)).alloc (.cells #[.int .i64 0, .int .i64 0, .int .i64 0] 94)).alloc (.cells #[.int .i64 0] 3) = W4 at *
  refine (HP.out W4).mono ?_
  rintro e w4 ⟨rfl, rfl⟩
  replace e2 := e2.alloc (.cells #[.string s] 9)
  replace e3 := e3.alloc (.cells #[.string s] 9)
  replace e4 := e4.alloc (.cells #[.string s] 9)
  replace e5 := e5.alloc (.cells #[.string s] 9)
  replace hb := hb.alloc hb.size (.cells #[.string s] 9)
  have eb := Blk.new W4 9 #[.string s]
  have hsz5 : (W4.alloc (.cells #[.string s] 9)).heap.size = w.heap.size + 1 + 1 + 1 + 1 + 1 := by simp [hsz]
  rw [hsz] at eb ⊢
  generalize W4.alloc (.cells #[.string s] 9) = W5 at *
  clear hsz
  go_wp2_with fail
  have hN3 : s.size / 2 = 3 := by omega
  have hseq := pairs_seq (w.heap.size + 1 + 1 + 1 + 1) s (by omega) W5 eb
  rw [hN3] at hseq
  refine range_own (gf := 82) (lb := #[.pointer (some ⟨w.heap.size + 1 + 1 + 1 + 1, 0, none⟩)]) (encs := encP) (b := w.heap.size + 1 + 1 + 1 + 1) (N := 3) ?hg (enters_of Try.func82 (by kernel_rfl) rfl) (by omega) hseq (fun _ => rfl)
    (fun pre W => Blk W (w.heap.size + 1 + 1) 94 (outC pre) ∧ Blk W (w.heap.size + 1 + 1 + 1) 3 #[.int .i64 (pre.length : Int)] ∧ Blk W w.heap.size 94 #[.int .i64 0, .int .i64 0, .int .i64 0] ∧ Blk W (w.heap.size + 1) 4 #[.bool false] ∧ Below w.heap.size w W ∧ w.heap.size + 1 + 1 + 1 + 1 + 1 ≤ W.heap.size ∧ AllOk pre)
    (fun cd pre W => cd = .ret ∧ (∃ a b c : Int, Blk W w.heap.size 94 #[.int .i64 a, .int .i64 b, .int .i64 c]) ∧ Blk W (w.heap.size + 1) 4 #[.bool false] ∧ Below w.heap.size w W ∧ w.heap.size + 1 + 1 ≤ W.heap.size ∧ ∃ x ∈ pre, x.2 = false)
    ?hI ?hIx ?hIb ⟨e4, e5, e2, e3, hb, by omega, fun _ h => (by cases h)⟩
    (fun x => { tmps := #[.string s, undef, .pointer (some ⟨w.heap.size, 0, none⟩), .pointer (some ⟨w.heap.size + 1, 0, none⟩), .pointer (some ⟨w.heap.size + 1 + 1, 0, none⟩), .pointer (some ⟨w.heap.size + 1 + 1 + 1, 0, none⟩), .int .i64 x.1, .bool x.2, .string s, .int .i64 6, .bool false, undef, .string s, .func (.func 82) #[] #[.pointer (some ⟨w.heap.size + 1 + 1 + 1 + 1, 0, none⟩)], .int .i64 x.1, .bool x.2, undef, undef, undef, undef, undef, undef, undef, undef, undef], defers := [] }) ?assign ?body ?done ?stop
  case hg => rfl
  case hI =>
    rintro pre A B row ⟨h1, h2, h3, h4, h5, h6, h7⟩ hg hr
    have hs : A.heap.size ≤ B.heap.size := hg.size
    have hb : Below (w.heap.size + 1 + 1 + 1 + 1 + 1) A B := ⟨hg.os, hg.tape, hg.output, hg.size, fun i hi => hg.block i (by omega) (fun e => by have := (hr i e.symm).1; omega)⟩
    exact ⟨h1.below hb (by omega), h2.below hb (by omega), h3.below hb (by omega), h4.below hb (by omega), h5.trans (hb.mono (by omega)), by omega, h7⟩
  case hIx =>
    rintro cd pre A B row ⟨h1, ⟨x, y, z, h2⟩, h3, h4, h5, h6⟩ hg hr
    have hs : A.heap.size ≤ B.heap.size := hg.size
    have hb : Below (w.heap.size + 1 + 1) A B := ⟨hg.os, hg.tape, hg.output, hg.size, fun i hi => hg.block i (by omega) (fun e => by have := (hr i e.symm).1; omega)⟩
    exact ⟨h1, ⟨x, y, z, h2.below hb (by omega)⟩, h3.below hb (by omega), h4.trans (hb.mono (by omega)), by omega, h6⟩
  case hIb =>
    rintro pre V v ⟨h1, h2, h3, h4, h5, h6, h7⟩
    exact ⟨h1.far (by dsimp only; omega) _, h2.far (by dsimp only; omega) _, h3.far (by dsimp only; omega) _, h4.far (by dsimp only; omega) _, h5.setCell (by dsimp only; omega) _, by simpa [World.setCell] using h6, h7⟩
  case assign =>
    intro l x W K hK
    simp only [encP]
    gi_wp2
    exact hK
  case body =>
    rintro l pre ⟨x, ok⟩ W ⟨e4, e5, e2, e3, hb, hWs, hall⟩ hpl3
    dsimp only
    have hKB : KeepsB (w.heap.size + 1 + 1 + 1 + 1) W W := rfl
    cases ok
    · obtain ⟨A0, h0⟩ := outC_at pre 0 (by omega)
      obtain ⟨A1, h1⟩ := outC_at pre 1 (by omega)
      obtain ⟨A2, h2⟩ := outC_at pre 2 (by omega)
      have a0 : W.cell? ⟨w.heap.size + 1 + 1, 0, none⟩ = some (.int .i64 A0) := (e4.cell 0).trans h0
      have a1 : W.cell? ⟨w.heap.size + 1 + 1, 1, none⟩ = some (.int .i64 A1) := (e4.cell 1).trans h1
      have a2 : W.cell? ⟨w.heap.size + 1 + 1, 2, none⟩ = some (.int .i64 A2) := (e4.cell 2).trans h2
      have c0 : W.cell? ⟨w.heap.size, 0, none⟩ = some (.int .i64 0) := e2.cell 0
      have c1 : W.cell? ⟨w.heap.size, 1, none⟩ = some (.int .i64 0) := e2.cell 1
      have c2 : W.cell? ⟨w.heap.size, 2, none⟩ = some (.int .i64 0) := e2.cell 2
      have z0 := e2.frozen 0
      have z1 := e2.frozen 1
      have z2 := e2.frozen 2
      have d0 : W.cell? ⟨w.heap.size + 1, 0, none⟩ = some (.bool false) := e3.cell 0
      have y0 := e3.frozen 0
      clear h0 h1 h2
      gi_wp2_with fail
      have t2 := (((e2.set_ 0 (.int .i64 A0)).set_ 1 (.int .i64 A1)).set_ 2 (.int .i64 A2)).far (p := ⟨w.heap.size + 1, 0, none⟩) (by simp) (.bool false)
      have t3 := (((e3.far (p := ⟨w.heap.size, 0, none⟩) (by simp) (.int .i64 A0)).far (p := ⟨w.heap.size, 1, none⟩) (by simp) (.int .i64 A1)).far (p := ⟨w.heap.size, 2, none⟩) (by simp) (.int .i64 A2)).set_ 0 (.bool false)
      have tb := ((((hb.setCell (p := ⟨w.heap.size, 0, none⟩) (by simp) (.int .i64 A0)).setCell (p := ⟨w.heap.size, 1, none⟩) (by simp) (.int .i64 A1)).setCell (p := ⟨w.heap.size, 2, none⟩) (by simp) (.int .i64 A2)).setCell (p := ⟨w.heap.size + 1, 0, none⟩) (by simp) (.bool false))
      refine ⟨((((KeepsOthers.setCell _ _ _).trans (KeepsOthers.setCell _ _ _)).trans (KeepsOthers.setCell _ _ _)).trans (KeepsOthers.setCell _ _ _)), rfl, ⟨A0, A1, A2, t2⟩, t3, tb, ?_, (x, false), by simp, rfl⟩
      simp
      omega
    · have hlt : pre.length < 3 := hpl3
      obtain ⟨old, hold⟩ := outC_at pre pre.length hlt
      have HO := hid (outC_app pre (x, true) hlt)
      have HL : Hid (((pre ++ [(x, true)]).length : Int) = (pre.length : Int) + 1) := hid (by simp)
      have HA : Hid (AllOk (pre ++ [(x, true)])) := hid fun y hy => by
        rcases List.mem_append.1 hy with h | h
        · exact hall y h
        · have : y = (x, true) := by simpa using h
          rw [this]
      clear hall
      generalize pre ++ [(x, true)] = pre' at *
      obtain ⟨n, hn⟩ : ∃ n, pre.length = n := ⟨_, rfl⟩
      rw [hn] at hlt hold HO HL e5 hpl3
      clear hn
      have r0 : W.cell? ⟨w.heap.size + 1 + 1, n, none⟩ = some (.int .i64 old) := (e4.cell n).trans hold
      have r1 := e4.frozen n
      have q0 : W.cell? ⟨w.heap.size + 1 + 1 + 1, 0, none⟩ = some (.int .i64 n) := e5.cell 0
      have q1 := e5.frozen 0
      have i1 : (0 : Int) ≤ (n : Int) := by omega
      have i2 : (n : Int) < 3 := by omega
      have un : IntKind.i64.wrap ((n : Int) + 1) = (n : Int) + 1 := IntWalk.i64_in _ (by omega)
      gi_wp2_with fail
      have t4 := (e4.set_ n (.int .i64 x)).far (p := ⟨w.heap.size + 1 + 1 + 1, 0, none⟩) (by simp <;> omega) (.int .i64 ((n : Int) + 1))
      have t5 := (e5.far (p := ⟨w.heap.size + 1 + 1, n, none⟩) (by simp <;> omega) (.int .i64 x)).set_ 0 (.int .i64 ((n : Int) + 1))
      rw [HO.out] at t4
      refine (show _ ∧ _ ∧ _ from ⟨(KeepsOthers.setCell _ _ _).trans (KeepsOthers.setCell _ _ _), ?_, t4, ?_, ?_, ?_, ?_, ?_, HA.out⟩)
      · exact (Below.heap_setCell _ _ _ (w.heap.size + 1 + 1 + 1 + 1) (by simp <;> omega)).trans (Below.heap_setCell _ _ _ (w.heap.size + 1 + 1 + 1 + 1) (by simp <;> omega))
      · rw [HL.out]; exact t5
      · exact (e2.far (by simp <;> omega) _).far (by simp <;> omega) _
      · exact (e3.far (by simp <;> omega) _).far (by simp <;> omega) _
      · exact (hb.setCell (by simp <;> omega) _).setCell (by simp <;> omega) _
      · simp; omega
  case done =>
    rintro D ys W hD rfl ⟨e4, e5, e2, e3, hb, hWs, hall⟩ hK
    have HY2 := hid (HY.out (by rw [List.all_eq_true]; exact fun x hx => by simpa using hall x hx))
    have hDl : D < W.heap.size := by rcases Nat.lt_or_ge D W.heap.size with h | h; exact h; rw [Array.getElem?_eq_none h] at hK; cases hK
    clear HY HE hall
    unfold outC at e4
    generalize valP (pairsL s) 0 = A0 at *
    generalize valP (pairsL s) 1 = A1 at *
    generalize valP (pairsL s) 2 = A2 at *
    have a0 : W.cell? ⟨w.heap.size + 1 + 1, 0, none⟩ = some (.int .i64 A0) := e4.cell 0
    have a1 : W.cell? ⟨w.heap.size + 1 + 1, 1, none⟩ = some (.int .i64 A1) := e4.cell 1
    have a2 : W.cell? ⟨w.heap.size + 1 + 1, 2, none⟩ = some (.int .i64 A2) := e4.cell 2
    have c0 : W.cell? ⟨w.heap.size, 0, none⟩ = some (.int .i64 0) := e2.cell 0
    have c1 : W.cell? ⟨w.heap.size, 1, none⟩ = some (.int .i64 0) := e2.cell 1
    have c2 : W.cell? ⟨w.heap.size, 2, none⟩ = some (.int .i64 0) := e2.cell 2
    have z0 := e2.frozen 0
    have z1 := e2.frozen 1
    have z2 := e2.frozen 2
    have d0 : W.cell? ⟨w.heap.size + 1, 0, none⟩ = some (.bool false) := e3.cell 0
    have y0 := e3.frozen 0
    go_wp2_with fail
    have t2 := (((e2.set_ 0 (.int .i64 A0)).set_ 1 (.int .i64 A1)).set_ 2 (.int .i64 A2)).far (p := ⟨w.heap.size + 1, 0, none⟩) (by simp) (.bool true)
    have t3 := (((e3.far (p := ⟨w.heap.size, 0, none⟩) (by simp) (.int .i64 A0)).far (p := ⟨w.heap.size, 1, none⟩) (by simp) (.int .i64 A1)).far (p := ⟨w.heap.size, 2, none⟩) (by simp) (.int .i64 A2)).set_ 0 (.bool true)
    have tb := ((((hb.setCell (p := ⟨w.heap.size, 0, none⟩) (by simp) (.int .i64 A0)).setCell (p := ⟨w.heap.size, 1, none⟩) (by simp) (.int .i64 A1)).setCell (p := ⟨w.heap.size, 2, none⟩) (by simp) (.int .i64 A2)).setCell (p := ⟨w.heap.size + 1, 0, none⟩) (by simp) (.bool true))
    have hK2 : (((((W).setCell ⟨w.heap.size, 0, none⟩ (.int .i64 A0)).setCell ⟨w.heap.size, 1, none⟩ (.int .i64 A1)).setCell ⟨w.heap.size, 2, none⟩ (.int .i64 A2)).setCell ⟨w.heap.size + 1, 0, none⟩ (.bool true)).heap[D]? = some (.deferred (some [])) := by
      rw [Below.heap_setCell _ _ _ D (by simp; omega), Below.heap_setCell _ _ _ D (by simp; omega), Below.heap_setCell _ _ _ D (by simp; omega), Below.heap_setCell _ _ _ D (by simp; omega)]
      exact hK
    generalize ((((W).setCell ⟨w.heap.size, 0, none⟩ (.int .i64 A0)).setCell ⟨w.heap.size, 1, none⟩ (.int .i64 A1)).setCell ⟨w.heap.size, 2, none⟩ (.int .i64 A2)).setCell ⟨w.heap.size + 1, 0, none⟩ (.bool true) = WE at *
    refine ⟨by simp, .inl ⟨_, _, rfl, run_takeDeferred hK2, ?_⟩⟩
    have hbk := belowK_b (n₀ := w.heap.size + 2) (w := W5) (by omega) WE D _ (.deferred none) hD hK2 rfl rfl
    refine ⟨_, results_3b _ _ w.heap.size (w.heap.size + 1) _ _ _ _ rfl rfl (t2.below hbk (by omega)) (t3.below hbk (by omega)), ?_⟩
    exact HY2.out _ _ ⟨rfl, tb.trans (hbk.mono (by omega))⟩
  case stop =>
    rintro D cd pre W hD ⟨k, hk, rfl⟩ ⟨rfl, ⟨A0, A1, A2, t2⟩, t3, tb, hWs, hx⟩ hK
    have HE2 := hid (HE.out ⟨k, hx⟩)
    clear HE hx
    go_wp2_with fail
    refine ⟨by simp, .inl ⟨_, _, rfl, run_takeDeferred hK, ?_⟩⟩
    have hbk := belowK_b (n₀ := w.heap.size + 2) (w := W5) (by omega) W D _ (.deferred none) hD hK rfl rfl
    refine ⟨_, results_3b _ _ w.heap.size (w.heap.size + 1) _ _ _ _ rfl rfl (t2.below hbk (by omega)) (t3.below hbk (by omega)), ?_⟩
    exact HE2.out _ _ ⟨⟨A0, A1, A2, rfl⟩, tb.trans (hbk.mono (by omega))⟩
end Go.Proofs.Ytbhfidneijogfaa
