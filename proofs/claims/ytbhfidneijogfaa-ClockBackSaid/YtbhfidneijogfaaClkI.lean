/- Chapter 24: hundredths. -/
import Derived.Test.YtbhfidneijogfaaClkH
namespace Go.Proofs.Ytbhfidneijogfaa
open Go.RowKit
set_option linter.unusedVariables false
set_option linter.unusedSimpArgs false
attribute [local go_sem] Oper.semAt_some
theorem results_nb (w : World) (tmps : Array Value) (g h : Nat) (a v : Value) (h2 : tmps.getD 2 undef = .pointer (some ⟨g, 0, none⟩)) (h3 : tmps.getD 3 undef = .pointer (some ⟨h, 0, none⟩))
    (hg : Blk w g 2 #[a]) (hh : Blk w h 4 #[v]) : (results Try.f75 tmps).run Try.prog w = .ok (.tuple #[a, v]) w := by
  have f0 := hg.cell 0
  have f3 := hh.cell 0
  simp at f0 f3
  simp at h2 h3
  simp only [results, Try.f75]
  simp [h2, h3]
  go_simp
def behP (s : ByteArray) : Int × Bool :=
  if s.size = 0 then (0, true) else
    if byteP s 0 = 46 ∧ (s.size = 2 ∨ s.size = 3) then (10 * digP (byteP s 1) + (if s.size = 2 then 0 else digP (byteP s 2)), decide (digP (byteP s 1) < 10) && (decide (s.size = 2) || decide (digP (byteP s 2) < 10)))
    else (0, false)
def Beh (s : ByteArray) (w : World) (e : Ending) (w' : World) : Prop := e = .returned (.tuple #[.int .i64 (behP s).1, .bool (behP s).2]) ∧ Below w.heap.size w w'
theorem byteP_app (s : ByteArray) (k : Nat) (h : k < s.size) : byteP (s ++ { data := #[48] }) k = byteP s k := by
  unfold byteP
  rw [ByteArray.data_append, Array.toList_append, List.getElem?_append_left (by simpa using h)]
theorem byteP_last (s : ByteArray) : byteP (s ++ { data := #[48] }) s.size = 48 := by
  unfold byteP
  rw [ByteArray.data_append, Array.toList_append, List.getElem?_append_right (by simp)]
  simp
theorem byteP_cut (s : ByteArray) (k i : Nat) (h : k + i < s.size) : byteP (cutS s k) i = byteP s (k + i) := by
  have h2 := cutS_at s k i (by rw [cutS_size]; omega)
  rw [← h2]
  have h3 := cutS_at (cutS s k) 0 i (by rw [cutS_size, cutS_size]; omega)
  rw [Nat.zero_add] at h3
  rw [← h3]
  have e : cutS (cutS s k) 0 = cutS s k := by
    have := cutS_cut s k 0
    unfold cutS at this ⊢
    simpa using this
  simp only [e]
theorem at_zero (s : ByteArray) (h : 0 < s.size) : (s[0]'h).toNat = byteP s 0 := by
  have h2 := cutS_at s 0 0 (by rw [cutS_size]; omega)
  have e : cutS s 0 = s := by unfold cutS; simp
  simp only [e] at h2
  exact h2
theorem empty_is (s : ByteArray) (h : s.size = 0) : s.toList = [] := by
  rw [ByteArray.toList_eq]
  exact List.length_eq_zero_iff.1 (by simpa using h)
theorem empty_no (s : ByteArray) (h : s.size ≠ 0) : s.toList.isEmpty = false := by
  rw [ByteArray.toList_eq]
  cases e : s.data.toList with
  | nil => have h2 : s.data.toList.length = 0 := by rw [e]; rfl
           exact absurd (by simpa using h2) h
  | cons a l => rfl
set_option maxRecDepth 20000 in
set_option maxHeartbeats 4000000 in
theorem c_beh0 (s : ByteArray) (w : World) (hs : s.size = 0) : Calls Try.prog 75 #[.string s] w (Beh s w) := by
  refine callsIn_wide.1 (callsIn_of_wp_marks (n := 3) Try.func75 rfl trivial ?_ rfl)
  simp only [Try.ntmps75, List.size_toArray, List.length_cons, List.length_nil, Nat.reduceAdd, Nat.reduceSub, Array.replicate_succ, Array.replicate_zero, List.push_toArray, List.append_toArray, List.nil_append, List.cons_append]
  refine wpIn_wide.2 ?_
  have HB : Hid (behP s = (0, true)) := hid (if_pos hs)
  have he := empty_is s hs
  have he2 : s.toList.isEmpty = true := by rw [he]; rfl
  clear hs
  have e2 := (Blk.new w 2 #[.int .i64 0]).alloc (.cells #[.bool false] 4)
  have e3 := Blk.new (w.alloc (.cells #[.int .i64 0] 2)) 4 #[.bool false]
  simp only [World.size_alloc] at e3
  have hb := ((Below.refl w.heap.size w).alloc (Nat.le_refl _) (.cells #[.int .i64 0] 2)).alloc (by simp) (.cells #[.bool false] 4)
  go_upto_region 1 with (fail)
  generalize (w.alloc (.cells #[.int .i64 0] 2)).alloc (.cells #[.bool false] 4) = W at *
  have c0 : W.cell? ⟨w.heap.size, 0, none⟩ = some (.int .i64 0) := e2.cell 0
  have z0 := e2.frozen 0
  have d0 : W.cell? ⟨w.heap.size + 1, 0, none⟩ = some (.bool false) := e3.cell 0
  have y0 := e3.frozen 0
  go_wp2_with fail
  have t2 := (e2.set_ 0 (.int .i64 0)).far (p := ⟨w.heap.size + 1, 0, none⟩) (by simp) (.bool true)
  have t3 := (e3.far (p := ⟨w.heap.size, 0, none⟩) (by simp) (.int .i64 0)).set_ 0 (.bool true)
  have tb := ((hb.setCell (p := ⟨w.heap.size, 0, none⟩) (by simp) (.int .i64 0)).setCell (p := ⟨w.heap.size + 1, 0, none⟩) (by simp) (.bool true))
  refine ⟨_, results_nb _ _ w.heap.size (w.heap.size + 1) _ _ rfl rfl t2 t3, by rw [HB.out], tb⟩
set_option maxRecDepth 20000 in
set_option maxHeartbeats 4000000 in
theorem c_behN (s : ByteArray) (w : World) (hs : 0 < s.size) (h0 : byteP s 0 ≠ 46) : Calls Try.prog 75 #[.string s] w (Beh s w) := by
  refine callsIn_wide.1 (callsIn_of_wp_marks (n := 3) Try.func75 rfl trivial ?_ rfl)
  simp only [Try.ntmps75, List.size_toArray, List.length_cons, List.length_nil, Nat.reduceAdd, Nat.reduceSub, Array.replicate_succ, Array.replicate_zero, List.push_toArray, List.append_toArray, List.nil_append, List.cons_append]
  refine wpIn_wide.2 ?_
  have HB : Hid (behP s = (0, false)) := hid (by unfold behP; rw [if_neg (by omega), if_neg (fun h => h0 h.1)])
  have he := empty_no s (by omega)
  have hx := at_zero s (by omega)
  have hi : ¬ ((byteP s 0 : Int) = 46) := by omega
  have hi2 : ((byteP s 0 : Int) != 46) = true := by simp; omega
  generalize byteP s 0 = X at *
  clear h0
  have e2 := (Blk.new w 2 #[.int .i64 0]).alloc (.cells #[.bool false] 4)
  have e3 := Blk.new (w.alloc (.cells #[.int .i64 0] 2)) 4 #[.bool false]
  simp only [World.size_alloc] at e3
  have hb := ((Below.refl w.heap.size w).alloc (Nat.le_refl _) (.cells #[.int .i64 0] 2)).alloc (by simp) (.cells #[.bool false] 4)
  go_upto_region 1 with (fail)
  generalize (w.alloc (.cells #[.int .i64 0] 2)).alloc (.cells #[.bool false] 4) = W at *
  have c0 : W.cell? ⟨w.heap.size, 0, none⟩ = some (.int .i64 0) := e2.cell 0
  have z0 := e2.frozen 0
  have d0 : W.cell? ⟨w.heap.size + 1, 0, none⟩ = some (.bool false) := e3.cell 0
  have y0 := e3.frozen 0
  go_wp2_with fail
  have t2 := (e2.set_ 0 (.int .i64 0)).far (p := ⟨w.heap.size + 1, 0, none⟩) (by simp) (.bool false)
  have t3 := (e3.far (p := ⟨w.heap.size, 0, none⟩) (by simp) (.int .i64 0)).set_ 0 (.bool false)
  have tb := ((hb.setCell (p := ⟨w.heap.size, 0, none⟩) (by simp) (.int .i64 0)).setCell (p := ⟨w.heap.size + 1, 0, none⟩) (by simp) (.bool false))
  refine ⟨_, results_nb _ _ w.heap.size (w.heap.size + 1) _ _ rfl rfl t2 t3, by rw [HB.out], tb⟩
set_option maxRecDepth 20000 in
set_option maxHeartbeats 4000000 in
theorem c_behL (s : ByteArray) (w : World) (hs : 0 < s.size) (h0 : byteP s 0 = 46) (h2 : s.size < 2) : Calls Try.prog 75 #[.string s] w (Beh s w) := by
  refine callsIn_wide.1 (callsIn_of_wp_marks (n := 3) Try.func75 rfl trivial ?_ rfl)
  simp only [Try.ntmps75, List.size_toArray, List.length_cons, List.length_nil, Nat.reduceAdd, Nat.reduceSub, Array.replicate_succ, Array.replicate_zero, List.push_toArray, List.append_toArray, List.nil_append, List.cons_append]
  refine wpIn_wide.2 ?_
  have HB : Hid (behP s = (0, false)) := hid (by unfold behP; rw [if_neg (by omega), if_neg (by omega)])
  have he := empty_no s (by omega)
  have hx := at_zero s (by omega)
  rw [h0] at hx
  clear h0
  have dl : decide ((s.size : Int) < 2) = true := by simp; omega
  have e2 := (Blk.new w 2 #[.int .i64 0]).alloc (.cells #[.bool false] 4)
  have e3 := Blk.new (w.alloc (.cells #[.int .i64 0] 2)) 4 #[.bool false]
  simp only [World.size_alloc] at e3
  have hb := ((Below.refl w.heap.size w).alloc (Nat.le_refl _) (.cells #[.int .i64 0] 2)).alloc (by simp) (.cells #[.bool false] 4)
  go_upto_region 1 with (fail)
  generalize (w.alloc (.cells #[.int .i64 0] 2)).alloc (.cells #[.bool false] 4) = W at *
  have c0 : W.cell? ⟨w.heap.size, 0, none⟩ = some (.int .i64 0) := e2.cell 0
  have z0 := e2.frozen 0
  have d0 : W.cell? ⟨w.heap.size + 1, 0, none⟩ = some (.bool false) := e3.cell 0
  have y0 := e3.frozen 0
  go_wp2_with fail
  have t2 := (e2.set_ 0 (.int .i64 0)).far (p := ⟨w.heap.size + 1, 0, none⟩) (by simp) (.bool false)
  have t3 := (e3.far (p := ⟨w.heap.size, 0, none⟩) (by simp) (.int .i64 0)).set_ 0 (.bool false)
  have tb := ((hb.setCell (p := ⟨w.heap.size, 0, none⟩) (by simp) (.int .i64 0)).setCell (p := ⟨w.heap.size + 1, 0, none⟩) (by simp) (.bool false))
  refine ⟨_, results_nb _ _ w.heap.size (w.heap.size + 1) _ _ rfl rfl t2 t3, by rw [HB.out], tb⟩
set_option maxRecDepth 20000 in
set_option maxHeartbeats 4000000 in
theorem c_behG (s : ByteArray) (w : World) (h0 : byteP s 0 = 46) (h3 : 3 < s.size) : Calls Try.prog 75 #[.string s] w (Beh s w) := by
  refine callsIn_wide.1 (callsIn_of_wp_marks (n := 3) Try.func75 rfl trivial ?_ rfl)
  simp only [Try.ntmps75, List.size_toArray, List.length_cons, List.length_nil, Nat.reduceAdd, Nat.reduceSub, Array.replicate_succ, Array.replicate_zero, List.push_toArray, List.append_toArray, List.nil_append, List.cons_append]
  refine wpIn_wide.2 ?_
  have HB : Hid (behP s = (0, false)) := hid (by unfold behP; rw [if_neg (by omega), if_neg (by omega)])
  have he := empty_no s (by omega)
  have hx := at_zero s (by omega)
  rw [h0] at hx
  clear h0
  have dl : decide ((s.size : Int) < 2) = false := by simp; omega
  have dg : decide (3 < (s.size : Int)) = true := by simp; omega
  have hs : 0 < s.size := by omega
  have e2 := (Blk.new w 2 #[.int .i64 0]).alloc (.cells #[.bool false] 4)
  have e3 := Blk.new (w.alloc (.cells #[.int .i64 0] 2)) 4 #[.bool false]
  simp only [World.size_alloc] at e3
  have hb := ((Below.refl w.heap.size w).alloc (Nat.le_refl _) (.cells #[.int .i64 0] 2)).alloc (by simp) (.cells #[.bool false] 4)
  go_upto_region 1 with (fail)
  generalize (w.alloc (.cells #[.int .i64 0] 2)).alloc (.cells #[.bool false] 4) = W at *
  have c0 : W.cell? ⟨w.heap.size, 0, none⟩ = some (.int .i64 0) := e2.cell 0
  have z0 := e2.frozen 0
  have d0 : W.cell? ⟨w.heap.size + 1, 0, none⟩ = some (.bool false) := e3.cell 0
  have y0 := e3.frozen 0
  go_wp2_with fail
  have t2 := (e2.set_ 0 (.int .i64 0)).far (p := ⟨w.heap.size + 1, 0, none⟩) (by simp) (.bool false)
  have t3 := (e3.far (p := ⟨w.heap.size, 0, none⟩) (by simp) (.int .i64 0)).set_ 0 (.bool false)
  have tb := ((hb.setCell (p := ⟨w.heap.size, 0, none⟩) (by simp) (.int .i64 0)).setCell (p := ⟨w.heap.size + 1, 0, none⟩) (by simp) (.bool false))
  refine ⟨_, results_nb _ _ w.heap.size (w.heap.size + 1) _ _ rfl rfl t2 t3, by rw [HB.out], tb⟩
set_option maxRecDepth 20000 in
set_option maxHeartbeats 8000000 in
theorem c_beh2 (s : ByteArray) (w : World) (h0 : byteP s 0 = 46) (hs : s.size = 2) : Calls Try.prog 75 #[.string s] w (Beh s w) := by
  have hmf : ∀ (fn : Fn) (first cap : Array Value) (w : World), (Instr.makeFunc fn first cap).run Try.prog w = .ok (.func fn first cap) w := fun _ _ _ _ => rfl
  have HP := hid c_pairs
  refine callsIn_wide.1 (callsIn_of_wp_marks (n := 3) Try.func75 rfl trivial ?_ rfl)
  simp only [Try.ntmps75, List.size_toArray, List.length_cons, List.length_nil, Nat.reduceAdd, Nat.reduceSub, Array.replicate_succ, Array.replicate_zero, List.push_toArray, List.append_toArray, List.nil_append, List.cons_append]
  refine wpIn_wide.2 ?_
  have hUs : ((s ++ { data := #[48] }).extract 1 3) = cutS (s ++ { data := #[48] }) 1 := by unfold cutS; rw [ByteArray.size_append, hs]; rfl
  have hUz : (((s ++ { data := #[48] }).extract 1 3)).size = 2 := by rw [hUs, cutS_size]; rw [ByteArray.size_append, hs]; rfl
  have HB : Hid (behP s = pairAt ((s ++ { data := #[48] }).extract 1 3) 0) := hid (by
    have h1 : byteP ((s ++ { data := #[48] }).extract 1 3) 0 = byteP s 1 := by rw [hUs, byteP_cut _ 1 0 (by rw [ByteArray.size_append, hs]; decide), byteP_app s 1 (by omega)]
    have h2 : byteP ((s ++ { data := #[48] }).extract 1 3) 1 = 48 := by rw [hUs, byteP_cut _ 1 1 (by rw [ByteArray.size_append, hs]; decide)]; have := byteP_last s; rw [hs] at this; exact this
    unfold behP pairAt
    rw [if_neg (by omega), if_pos ⟨h0, by omega⟩, show 2 * 0 = 0 from rfl, show 0 + 1 = 1 from rfl, h1, h2, hs]
    have : digP 48 = 0 := by decide +kernel
    rw [this]
    simp)
  have he := empty_no s (by omega)
  have hx := at_zero s (by omega)
  rw [h0] at hx
  clear h0 hUs
  have hp : 0 < s.size := by omega
  have e2 := (Blk.new w 2 #[.int .i64 0]).alloc (.cells #[.bool false] 4)
  have e3 := Blk.new (w.alloc (.cells #[.int .i64 0] 2)) 4 #[.bool false]
  simp only [World.size_alloc] at e3
  have hb := ((Below.refl w.heap.size w).alloc (Nat.le_refl _) (.cells #[.int .i64 0] 2)).alloc (by simp) (.cells #[.bool false] 4)
  go_wp2_with fail
  have hsz : ((w.alloc (.cells #[.int .i64 0] 2)).alloc (.cells #[.bool false] 4)).heap.size = w.heap.size + 1 + 1 := by simp
  generalize (w.alloc (.cells #[.int .i64 0] 2)).alloc (.cells #[.bool false] 4) = W4 at *
  generalize hU : ((s ++ { data := #[48] }).extract 1 3) = U at *
  refine (HP.out _ W4).mono ?_
  rintro e w4 ⟨rfl, rfl⟩
  replace e2 := e2.alloc (.cells #[.string U] 9)
  replace e3 := e3.alloc (.cells #[.string U] 9)
  replace hb := hb.alloc hb.size (.cells #[.string U] 9)
  have eb := Blk.new W4 9 #[.string U]
  have hsz5 : (W4.alloc (.cells #[.string U] 9)).heap.size = w.heap.size + 1 + 1 + 1 := by simp [hsz]
  rw [hsz] at eb ⊢
  generalize W4.alloc (.cells #[.string U] 9) = W5 at *
  clear hsz hU
  go_wp2_with fail
  generalize s ++ { data := #[48] } = T at *
  have hN3 : U.size / 2 = 1 := by omega
  have hpl : pairsL U = [pairAt U 0] := by unfold pairsL; rw [hN3]; rfl
  have hseq := pairs_seq (w.heap.size + 1 + 1) U (by omega) W5 eb
  rw [hN3] at hseq
  refine range_own (gf := 82) (lb := #[.pointer (some ⟨w.heap.size + 1 + 1, 0, none⟩)]) (encs := encP) (b := w.heap.size + 1 + 1) (N := 1) ?hg (enters_of Try.func82 (by kernel_rfl) rfl) (by omega) hseq (fun _ => rfl)
    (fun pre W => Hid (pre = []) ∧ Blk W w.heap.size 2 #[.int .i64 0] ∧ Blk W (w.heap.size + 1) 4 #[.bool false] ∧ Below w.heap.size w W ∧ w.heap.size + 1 + 1 + 1 ≤ W.heap.size)
    (fun cd pre W => cd = .ret ∧ ∃ x : Int × Bool, Hid (pre = [x]) ∧ Blk W w.heap.size 2 #[.int .i64 x.1] ∧ Blk W (w.heap.size + 1) 4 #[.bool x.2] ∧ Below w.heap.size w W ∧ w.heap.size + 1 + 1 ≤ W.heap.size)
    ?hI ?hIx ?hIb ⟨rfl, e2, e3, hb, by omega⟩
    (fun x => { tmps := #[.string T, undef, .pointer (some ⟨w.heap.size, 0, none⟩), .pointer (some ⟨w.heap.size + 1, 0, none⟩), .int .i64 x.1, .bool x.2, .bool false, .string s, .bool false, .bool false, .string s, .int .u8 46, .bool false, .bool false, .string s, .int .i64 2, .bool false, .bool false, .bool false, .string s, .int .i64 2, .bool false, .bool false, .bool true, .string s, .int .i64 2, .bool true, .string s, .string T, .string T, .string U, .func (.func 82) #[] #[.pointer (some ⟨w.heap.size + 1 + 1, 0, none⟩)], .int .i64 x.1, .bool x.2, undef, undef], defers := [] }) ?assign ?body ?done ?stop
  case hg => rfl
  case hI =>
    rintro pre A B row ⟨h1, h2, h3, h4, h5⟩ hg hr
    have hs : A.heap.size ≤ B.heap.size := hg.size
    have hb : Below (w.heap.size + 1 + 1 + 1) A B := ⟨hg.os, hg.tape, hg.output, hg.size, fun i hi => hg.block i (by omega) (fun e => by have := (hr i e.symm).1; omega)⟩
    exact ⟨h1, h2.below hb (by omega), h3.below hb (by omega), h4.trans (hb.mono (by omega)), by omega⟩
  case hIx =>
    rintro cd pre A B row ⟨h1, x, h2, h3, h4, h5, h6⟩ hg hr
    have hs : A.heap.size ≤ B.heap.size := hg.size
    have hb : Below (w.heap.size + 1 + 1) A B := ⟨hg.os, hg.tape, hg.output, hg.size, fun i hi => hg.block i (by omega) (fun e => by have := (hr i e.symm).1; omega)⟩
    exact ⟨h1, x, h2, h3.below hb (by omega), h4.below hb (by omega), h5.trans (hb.mono (by omega)), by omega⟩
  case hIb =>
    rintro pre V v ⟨h1, h2, h3, h4, h5⟩
    exact ⟨h1, h2.far (by dsimp only; omega) _, h3.far (by dsimp only; omega) _, h4.setCell (by dsimp only; omega) _, by simpa [World.setCell] using h5⟩
  case assign =>
    intro l x W K hK
    simp only [encP]
    gi_wp2
    exact hK
  case body =>
    rintro l pre ⟨x, ok⟩ W ⟨h1, e2, e3, hb, hWs⟩ hpl3
    dsimp only
    have HX : Hid (pre ++ [(x, ok)] = [(x, ok)]) := hid (by rw [h1.out]; rfl)
    have c0 : W.cell? ⟨w.heap.size, 0, none⟩ = some (.int .i64 0) := e2.cell 0
    have z0 := e2.frozen 0
    have d0 : W.cell? ⟨w.heap.size + 1, 0, none⟩ = some (.bool false) := e3.cell 0
    have y0 := e3.frozen 0
    gi_wp2_with fail
    have t2 := (e2.set_ 0 (.int .i64 x)).far (p := ⟨w.heap.size + 1, 0, none⟩) (by simp) (.bool ok)
    have t3 := (e3.far (p := ⟨w.heap.size, 0, none⟩) (by simp) (.int .i64 x)).set_ 0 (.bool ok)
    have tb := ((hb.setCell (p := ⟨w.heap.size, 0, none⟩) (by simp) (.int .i64 x)).setCell (p := ⟨w.heap.size + 1, 0, none⟩) (by simp) (.bool ok))
    refine ⟨(KeepsOthers.setCell _ _ _).trans (KeepsOthers.setCell _ _ _), rfl, (x, ok), HX, t2, t3, tb, ?_⟩
    simp
    omega
  case done =>
    rintro D ys W hD rfl ⟨h1, _⟩ hK
    have := h1.out
    rw [hpl] at this
    cases this
  case stop =>
    rintro D cd pre W hD ⟨k, hk, rfl⟩ ⟨rfl, x, hx, t2, t3, tb, hWs⟩ hK
    have hxe : x = pairAt U 0 := by
      have h5 := hx.out
      rw [hpl] at h5
      obtain rfl | rfl : k = 0 ∨ k = 1 := by omega
      · cases h5
      · simpa using h5.symm
    subst hxe
    clear hx
    go_wp2_with fail
    refine ⟨by simp, .inl ⟨_, _, rfl, run_takeDeferred hK, ?_⟩⟩
    have hbk := belowK_b (n₀ := w.heap.size + 1 + 1) (w := W5) (by omega) W D _ (.deferred none) hD hK rfl rfl
    refine ⟨_, results_nb _ _ w.heap.size (w.heap.size + 1) _ _ rfl rfl (t2.below hbk (by omega)) (t3.below hbk (by omega)), by rw [HB.out], tb.trans (hbk.mono (by omega))⟩
set_option maxRecDepth 20000 in
set_option maxHeartbeats 8000000 in
theorem c_beh3 (s : ByteArray) (w : World) (h0 : byteP s 0 = 46) (hs : s.size = 3) : Calls Try.prog 75 #[.string s] w (Beh s w) := by
  have hmf : ∀ (fn : Fn) (first cap : Array Value) (w : World), (Instr.makeFunc fn first cap).run Try.prog w = .ok (.func fn first cap) w := fun _ _ _ _ => rfl
  have HP := hid c_pairs
  refine callsIn_wide.1 (callsIn_of_wp_marks (n := 3) Try.func75 rfl trivial ?_ rfl)
  simp only [Try.ntmps75, List.size_toArray, List.length_cons, List.length_nil, Nat.reduceAdd, Nat.reduceSub, Array.replicate_succ, Array.replicate_zero, List.push_toArray, List.append_toArray, List.nil_append, List.cons_append]
  refine wpIn_wide.2 ?_
  have hUs : (s.extract 1 3) = cutS s 1 := by unfold cutS; rw [hs]
  have hUz : ((s.extract 1 3)).size = 2 := by rw [hUs, cutS_size]; rw [hs]
  have HB : Hid (behP s = pairAt (s.extract 1 3) 0) := hid (by
    have h1 : byteP (s.extract 1 3) 0 = byteP s 1 := by rw [hUs, byteP_cut _ 1 0 (by omega)]
    have h2 : byteP (s.extract 1 3) 1 = byteP s 2 := by rw [hUs, byteP_cut _ 1 1 (by omega)]
    unfold behP pairAt
    rw [if_neg (by omega), if_pos ⟨h0, by omega⟩, show 2 * 0 = 0 from rfl, show 0 + 1 = 1 from rfl, h1, h2, hs]
    skip
    skip
    simp)
  have he := empty_no s (by omega)
  have hx := at_zero s (by omega)
  rw [h0] at hx
  clear h0 hUs
  have hp : 0 < s.size := by omega
  have e2 := (Blk.new w 2 #[.int .i64 0]).alloc (.cells #[.bool false] 4)
  have e3 := Blk.new (w.alloc (.cells #[.int .i64 0] 2)) 4 #[.bool false]
  simp only [World.size_alloc] at e3
  have hb := ((Below.refl w.heap.size w).alloc (Nat.le_refl _) (.cells #[.int .i64 0] 2)).alloc (by simp) (.cells #[.bool false] 4)
  go_wp2_with fail
  have hsz : ((w.alloc (.cells #[.int .i64 0] 2)).alloc (.cells #[.bool false] 4)).heap.size = w.heap.size + 1 + 1 := by simp
  generalize (w.alloc (.cells #[.int .i64 0] 2)).alloc (.cells #[.bool false] 4) = W4 at *
  generalize hU : (s.extract 1 3) = U at *
  refine (HP.out _ W4).mono ?_
  rintro e w4 ⟨rfl, rfl⟩
  replace e2 := e2.alloc (.cells #[.string U] 9)
  replace e3 := e3.alloc (.cells #[.string U] 9)
  replace hb := hb.alloc hb.size (.cells #[.string U] 9)
  have eb := Blk.new W4 9 #[.string U]
  have hsz5 : (W4.alloc (.cells #[.string U] 9)).heap.size = w.heap.size + 1 + 1 + 1 := by simp [hsz]
  rw [hsz] at eb ⊢
  generalize W4.alloc (.cells #[.string U] 9) = W5 at *
  clear hsz hU
  go_wp2_with fail
  obtain ⟨T, rfl⟩ : ∃ T, T = s := ⟨_, rfl⟩
  have hN3 : U.size / 2 = 1 := by omega
  have hpl : pairsL U = [pairAt U 0] := by unfold pairsL; rw [hN3]; rfl
  have hseq := pairs_seq (w.heap.size + 1 + 1) U (by omega) W5 eb
  rw [hN3] at hseq
  refine range_own (gf := 82) (lb := #[.pointer (some ⟨w.heap.size + 1 + 1, 0, none⟩)]) (encs := encP) (b := w.heap.size + 1 + 1) (N := 1) ?hg (enters_of Try.func82 (by kernel_rfl) rfl) (by omega) hseq (fun _ => rfl)
    (fun pre W => Hid (pre = []) ∧ Blk W w.heap.size 2 #[.int .i64 0] ∧ Blk W (w.heap.size + 1) 4 #[.bool false] ∧ Below w.heap.size w W ∧ w.heap.size + 1 + 1 + 1 ≤ W.heap.size)
    (fun cd pre W => cd = .ret ∧ ∃ x : Int × Bool, Hid (pre = [x]) ∧ Blk W w.heap.size 2 #[.int .i64 x.1] ∧ Blk W (w.heap.size + 1) 4 #[.bool x.2] ∧ Below w.heap.size w W ∧ w.heap.size + 1 + 1 ≤ W.heap.size)
    ?hI ?hIx ?hIb ⟨rfl, e2, e3, hb, by omega⟩
    (fun x => { tmps := #[.string T, undef, .pointer (some ⟨w.heap.size, 0, none⟩), .pointer (some ⟨w.heap.size + 1, 0, none⟩), .int .i64 x.1, .bool x.2, .bool false, .string T, .bool false, .bool false, .string T, .int .u8 46, .bool false, .bool false, .string T, .int .i64 3, .bool false, .bool false, .bool false, .string T, .int .i64 3, .bool false, .bool false, .bool false, .string T, .int .i64 3, .bool false, undef, undef, .string T, .string U, .func (.func 82) #[] #[.pointer (some ⟨w.heap.size + 1 + 1, 0, none⟩)], .int .i64 x.1, .bool x.2, undef, undef], defers := [] }) ?assign ?body ?done ?stop
  case hg => rfl
  case hI =>
    rintro pre A B row ⟨h1, h2, h3, h4, h5⟩ hg hr
    have hs : A.heap.size ≤ B.heap.size := hg.size
    have hb : Below (w.heap.size + 1 + 1 + 1) A B := ⟨hg.os, hg.tape, hg.output, hg.size, fun i hi => hg.block i (by omega) (fun e => by have := (hr i e.symm).1; omega)⟩
    exact ⟨h1, h2.below hb (by omega), h3.below hb (by omega), h4.trans (hb.mono (by omega)), by omega⟩
  case hIx =>
    rintro cd pre A B row ⟨h1, x, h2, h3, h4, h5, h6⟩ hg hr
    have hs : A.heap.size ≤ B.heap.size := hg.size
    have hb : Below (w.heap.size + 1 + 1) A B := ⟨hg.os, hg.tape, hg.output, hg.size, fun i hi => hg.block i (by omega) (fun e => by have := (hr i e.symm).1; omega)⟩
    exact ⟨h1, x, h2, h3.below hb (by omega), h4.below hb (by omega), h5.trans (hb.mono (by omega)), by omega⟩
  case hIb =>
    rintro pre V v ⟨h1, h2, h3, h4, h5⟩
    exact ⟨h1, h2.far (by dsimp only; omega) _, h3.far (by dsimp only; omega) _, h4.setCell (by dsimp only; omega) _, by simpa [World.setCell] using h5⟩
  case assign =>
    intro l x W K hK
    simp only [encP]
    gi_wp2
    exact hK
  case body =>
    rintro l pre ⟨x, ok⟩ W ⟨h1, e2, e3, hb, hWs⟩ hpl3
    dsimp only
    have HX : Hid (pre ++ [(x, ok)] = [(x, ok)]) := hid (by rw [h1.out]; rfl)
    have c0 : W.cell? ⟨w.heap.size, 0, none⟩ = some (.int .i64 0) := e2.cell 0
    have z0 := e2.frozen 0
    have d0 : W.cell? ⟨w.heap.size + 1, 0, none⟩ = some (.bool false) := e3.cell 0
    have y0 := e3.frozen 0
    gi_wp2_with fail
    have t2 := (e2.set_ 0 (.int .i64 x)).far (p := ⟨w.heap.size + 1, 0, none⟩) (by simp) (.bool ok)
    have t3 := (e3.far (p := ⟨w.heap.size, 0, none⟩) (by simp) (.int .i64 x)).set_ 0 (.bool ok)
    have tb := ((hb.setCell (p := ⟨w.heap.size, 0, none⟩) (by simp) (.int .i64 x)).setCell (p := ⟨w.heap.size + 1, 0, none⟩) (by simp) (.bool ok))
    refine ⟨(KeepsOthers.setCell _ _ _).trans (KeepsOthers.setCell _ _ _), rfl, (x, ok), HX, t2, t3, tb, ?_⟩
    simp
    omega
  case done =>
    rintro D ys W hD rfl ⟨h1, _⟩ hK
    have := h1.out
    rw [hpl] at this
    cases this
  case stop =>
    rintro D cd pre W hD ⟨k, hk, rfl⟩ ⟨rfl, x, hx, t2, t3, tb, hWs⟩ hK
    have hxe : x = pairAt U 0 := by
      have h5 := hx.out
      rw [hpl] at h5
      obtain rfl | rfl : k = 0 ∨ k = 1 := by omega
      · cases h5
      · simpa using h5.symm
    subst hxe
    clear hx
    go_wp2_with fail
    refine ⟨by simp, .inl ⟨_, _, rfl, run_takeDeferred hK, ?_⟩⟩
    have hbk := belowK_b (n₀ := w.heap.size + 1 + 1) (w := W5) (by omega) W D _ (.deferred none) hD hK rfl rfl
    refine ⟨_, results_nb _ _ w.heap.size (w.heap.size + 1) _ _ rfl rfl (t2.below hbk (by omega)) (t3.below hbk (by omega)), by rw [HB.out], tb.trans (hbk.mono (by omega))⟩
theorem c_behind (s : ByteArray) (w : World) : Calls Try.prog 75 #[.string s] w (Beh s w) := by
  by_cases h : s.size = 0
  · exact c_beh0 s w h
  · by_cases h0 : byteP s 0 = 46
    · by_cases h2 : s.size < 2
      · exact c_behL s w (by omega) h0 h2
      · by_cases h3 : 3 < s.size
        · exact c_behG s w h0 h3
        · by_cases h4 : s.size = 2
          · exact c_beh2 s w h0 h4
          · exact c_beh3 s w h0 (by omega)
    · exact c_behN s w (by omega) h0
theorem c_three (s : ByteArray) (w : World) : Calls Try.prog 74 #[.string s] w (Three s w) := by
  by_cases h : s.size = 6
  · exact c_three6 s w h
  · exact c_threeN s w h
end Go.Proofs.Ytbhfidneijogfaa
