/- Chapter 04: a writer of bytes. -/
import Derived.Test.YtldoocndhfgjhaaGreatOct
import Derived.Test.YtldoocndhfgjhaaGreatLate
import Derived.Shelf.Abstract
import Derived.Laws.BytesArg
namespace Go.Proofs.YtldoocndhfgjhaaGreat
open Go.RowKit
set_option linter.unusedVariables false
set_option linter.unusedSimpArgs false
attribute [local go_sem] Oper.semAt_some

/-- What is neither block g nor of bytes stays as it was. -/
def KeepsT (g : Nat) (w w' : World) : Prop := ∀ i t cs, 5 ≠ t → i ≠ g → Blk w i t cs → Blk w' i t cs
theorem KeepsT.trans {g : Nat} {a b c : World} (h : KeepsT g a b) (k : KeepsT g b c) : KeepsT g a c := fun i t cs ht hi hb => k i t cs ht hi (h i t cs ht hi hb)
/-- A writer at g that holds the slice s. -/
def Wr (w : World) (g : Nat) (s : Value) : Prop := Blk w g 335 #[s, .bool true, .bool false]
theorem o_fine (g : Nat) (s : Value) (t : TypeId) (w : World) (h : Blk w g t #[s, .bool true, .bool false]) :
    Calls Tryz.prog 209 #[.pointer (some ⟨g, 0, none⟩)] w fun e w' => e = .returned (.bool true) ∧ w' = w := by
  have c1 : w.cell? ⟨g, 1, none⟩ = some (.bool true) := h.cell 1
  have c2 : w.cell? ⟨g, 2, none⟩ = some (.bool false) := h.cell 2
  clear h
  go_enter Tryz.func209, Tryz.ntmps209
  go_wp2
  go_ret
  exact ⟨rfl, rfl⟩
theorem o_Fail (g : Nat) (s : Value) (t : TypeId) (w : World) (h : Blk w g t #[s, .bool true, .bool false]) :
    Calls Tryz.prog 179 #[.pointer (some ⟨g, 0, none⟩)] w fun e w' => e = .returned (.bool false) ∧ w' = w := by
  have H := hid (o_fine g s t w h)
  clear h
  go_enter Tryz.func179, Tryz.ntmps179
  go_wp2_with fail
  refine H.out.mono ?_
  rintro e w1 ⟨rfl, rfl⟩
  go_wp2
  go_ret
  exact ⟨rfl, rfl⟩
theorem o_Make (w : World) :
    Calls Tryz.prog 134 #[] w fun e w' => e = .returned (.pointer (some ⟨w.heap.size, 0, none⟩)) ∧ w' = w.alloc (.cells #[.slice none 0 0, .bool true, .bool false] 335) := by
  go_enter Tryz.func134, Tryz.ntmps134
  go_wp2
  go_ret
  exact ⟨rfl, rfl⟩
theorem info8o : (Tryz.prog.info? 5).map (fun i => (i.zero, i.size, i.bytes)) = some (some (.int .u8 0), 1, 1) := by kernel_rfl
set_option maxRecDepth 20000 in
set_option maxHeartbeats 8000000 in
theorem o_put (n : Nat) (u : Int) (g base m c : Nat) (A : Option Addr) (ys : List Int) (w : World) (hn : n ≤ 8) (hu : 0 ≤ u ∧ u ≤ 18446744073709551615) (hb : Wr w g (.slice A m c)) (ho : Own .u8 w base 5 A m c ys) (hg : base ≤ g) (hm : m ≤ 1000000) (hbs : base ≤ w.heap.size) :
    Calls Tryz.prog 147 #[.pointer (some ⟨g, 0, none⟩), .int .i64 n, .int .u64 u, .bool true] w fun e w' => e = .returned (.tuple #[]) ∧ ∃ A' c', Wr w' g (.slice A' (m + n) c') ∧ Own .u8 w' base 5 A' (m + n) c' (ys ++ leP n u) ∧ Below base w w' ∧ KeepsT g w w' := by
  obtain ⟨i0, hi0, hz0, hz1, hz2⟩ := info_parts3 info8o
  unfold Wr at hb
  have hp := Blk.new w 252 #[.pointer (some ⟨g, 0, none⟩)]
  have hB := (Below.refl base w).alloc hbs (.cells #[.pointer (some ⟨g, 0, none⟩)] 252)
  have hgl := hb.lt
  have hK0 : KeepsT g w (w.alloc (.cells #[.pointer (some ⟨g, 0, none⟩)] 252)) := fun i t cs _ _ h => h.alloc _
  replace hb := hb.alloc (.cells #[.pointer (some ⟨g, 0, none⟩)] 252)
  replace ho := ho.alloc (.cells #[.pointer (some ⟨g, 0, none⟩)] 252)
  have k0 : (w.alloc (.cells #[.pointer (some ⟨g, 0, none⟩)] 252)).cell? ⟨w.heap.size, 0, none⟩ = some (.pointer (some ⟨g, 0, none⟩)) := hp.cell 0
  refine callsIn_wide.1 (callsIn_of_wp_marks (n := 3) Tryz.func147 rfl trivial ?_ rfl)
  simp only [Tryz.ntmps147, List.size_toArray, List.length_cons, List.length_nil, Nat.reduceAdd, Nat.reduceSub, Array.replicate_succ, Array.replicate_zero, List.push_toArray, List.append_toArray, List.nil_append, List.cons_append]
  refine wpIn_wide.2 ?_
  go_wp2_with fail
  have hS1 : (w.alloc (.cells #[.pointer (some ⟨g, 0, none⟩)] 252)).heap.size = w.heap.size + 1 := by simp
  generalize w.alloc (.cells #[.pointer (some ⟨g, 0, none⟩)] 252) = W0 at *
  refine (o_Fail g _ _ _ hb).mono ?_
  rintro e w1 ⟨rfl, rfl⟩
  clear k0
  go_wp2_with fail
  refine (o_bytes n u _).mono ?_
  rintro e w2 ⟨rfl, rfl⟩
  rw [hS1]
  have hu1 := Blk.new w1 3 #[.int .i64 n]
  have hu2 := Blk.new (w1.alloc (.cells #[.int .i64 n] 3)) 244 #[.int .u64 u]
  simp only [World.size_alloc, hS1] at hu1 hu2
  replace hu1 := hu1.alloc (.cells #[.int .u64 u] 244)
  replace hp := (hp.alloc (.cells #[.int .i64 n] 3)).alloc (.cells #[.int .u64 u] 244)
  replace hb := (hb.alloc (.cells #[.int .i64 n] 3)).alloc (.cells #[.int .u64 u] 244)
  replace ho := (ho.alloc (.cells #[.int .i64 n] 3)).alloc (.cells #[.int .u64 u] 244)
  replace hB := (hB.alloc (by omega) (.cells #[.int .i64 n] 3)).alloc (by simp; omega) (.cells #[.int .u64 u] 244)
  replace hK0 : KeepsT g w ((w1.alloc (.cells #[.int .i64 n] 3)).alloc (.cells #[.int .u64 u] 244)) := hK0.trans fun i t cs _ _ h => (h.alloc _).alloc _
  have hS2 : ((w1.alloc (.cells #[.int .i64 n] 3)).alloc (.cells #[.int .u64 u] 244)).heap.size = w.heap.size + 3 := by simp [hS1]
  go_wp2_with fail
  generalize (w1.alloc (.cells #[.int .i64 n] 3)).alloc (.cells #[.int .u64 u] 244) = W2 at *
  have hseq := bytes_seq (w.heap.size + 1 + 1) (w.heap.size + 1) n u hn hu W2 hu2 hu1
  refine range_own2 (gf := 212) (lb := #[.pointer (some ⟨w.heap.size + 1, 0, none⟩), .pointer (some ⟨w.heap.size + 1 + 1, 0, none⟩)]) (encs := encB) (b := w.heap.size + 1 + 1) (b2 := w.heap.size + 1) (N := n) ?hg (enters_of Tryz.func212 (by kernel_rfl) rfl) (by omega) (by omega) hseq (fun _ => rfl)
    (fun pre W => ∃ X d v, Blk W g 335 #[.slice X (m + pre.length) d, .bool true, .bool false] ∧ Own .u8 W base 5 X (m + pre.length) d (ys ++ pre) ∧ Blk W w.heap.size 252 #[.pointer (some ⟨g, 0, none⟩)] ∧ Blk W (w.heap.size + 1 + 1) 244 #[v] ∧ Below base w W ∧ w.heap.size + 3 ≤ W.heap.size ∧ KeepsT g w W)
    (fun _ _ _ => False) ?hI (fun _ _ _ _ _ hs _ _ => hs) ?hIb ⟨A, c, _, hb, by simpa using ho, hp, hu2, hB, by omega, hK0⟩
    (fun x => { tmps := #[.pointer (some ⟨g, 0, none⟩), .int .i64 n, .int .u64 u, .bool true, .pointer (some ⟨w.heap.size, 0, none⟩), undef, undef, undef, .int .u8 x, .bool false, .pointer (some ⟨g, 0, none⟩), .bool false, .bool false, .bool true, .bool false, undef, undef, undef, undef, .int .i64 n, .int .u64 u, .func (.func 212) #[] #[.pointer (some ⟨w.heap.size + 1, 0, none⟩), .pointer (some ⟨w.heap.size + 1 + 1, 0, none⟩)], .int .u8 x, undef, undef, undef, undef, undef, undef, undef, undef, undef, undef, undef, undef], defers := [] }) ?assign ?body ?done ?stop
  case hg => rfl
  case hI =>
    rintro pre A B row ⟨X, d, v, h1, h2, h3, h4, h5, h6, h7⟩ hg hr
    have hs : A.heap.size ≤ B.heap.size := hg.size
    refine ⟨X, d, v, h1.ownFrom hg hr, h2.fromR hg hr, h3.ownFrom hg hr, h4.ownFrom hg hr, h5.grown hg (by omega) ?_, by omega, h7.trans fun i t cs _ _ h => h.ownFrom hg hr⟩
    intro k e
    obtain ⟨hk, _⟩ := hr k e
    omega
  case hIb =>
    rintro pre V v ⟨X, d, v0, h1, h2, h3, h4, h5, h6, h7⟩
    exact ⟨X, d, v, h1.far (by dsimp only; omega) _, h2.setFar h4 (by decide) 0 v, h3.far (by dsimp only; omega) _, h4.set_ 0 v, h5.setCell (by dsimp only; omega) _, by simpa [World.setCell] using h6, fun i t cs ht hi hb => (h7 i t cs ht hi hb).far (by have := hb.lt; dsimp only; omega) _⟩
  case assign =>
    intro l x W K hK
    simp only [encB]
    gi_wp2
    exact hK
  case stop =>
    rintro D cd pre W _ _ hh _
    exact hh.elim
  case done =>
    rintro D zs W hD rfl ⟨X, d, v, h1, h2, h3, h4, h5, h6, h7⟩ hK
    rw [leP_len] at h1 h2
    have hbk := belowK_b (n₀ := w.heap.size + 3) (w := W2) (by omega) W D _ (.deferred none) hD hK rfl rfl
    refine ⟨by simp, .inl ⟨_, _, rfl, run_takeDeferred hK, ?_⟩⟩
    exact ⟨_, results_none rfl _ _ _, rfl, X, d, h1.below hbk (by omega), h2.fromR (grownBy_putObj' W D (.deferred none)) (fun r e => by cases e; exact ⟨hD, _, hK, rfl⟩), h5.trans (hbk.mono (by omega)), fun i t cs ht hi hb => (h7 i t cs ht hi hb).below hbk (by have := hb.lt; omega)⟩
  case body =>
    rintro l pre x W ⟨X, d, v, g1, g2, g3, g4, g5, g6, g9⟩ hpl
    have HLN : Hid ((pre ++ [x]).length = pre.length + 1) := hid (by simp)
    have HYS : Hid (ys ++ (pre ++ [x]) = (ys ++ pre) ++ [x]) := hid (by simp)
    dsimp only
    generalize hpp : pre ++ [x] = pre' at *
    clear hpp
    generalize hls : ys ++ pre = ls at *
    clear hls
    have hnn8 : m + pre.length ≤ 1000008 := by omega
    have HNN : Hid (m + pre.length + 1 = m + (pre.length + 1)) := hid (by omega)
    generalize m + pre.length = nn at *
    gi_wp2_with fail
    refine late_inRound 12 (S := fun w' => w'.cell? ⟨w.heap.size, 0, none⟩ = some (.pointer (some ⟨g, 0, none⟩)) ∧ w'.cell? ⟨g, 0, none⟩ = some (.slice X nn d)) ?hq1 (by kernel_rfl) (by kernel_rfl) (fun hHeld => ?_) ?hs1
    case hq1 => rintro ⟨a, w, hh⟩; exact hh
    case hs1 => exact ⟨g3.cell 0, g1.cell 0⟩
    refine (show wpAnyE _ _ _ _ _ _ 13 _ _ _ from ?_)
    try (simp only [Act.put, List.setIfInBounds_toArray, List.set_cons_zero, List.set_cons_succ])
    have ko : KeepsOthers W W.drew := KeepsOthers.drew W
    have kb : KeepsB (w.heap.size + 1 + 1) W W.drew := rfl
    replace g1 := g1.drew
    replace g2 := g2.drew
    replace g3 := g3.drew
    replace g4 := g4.drew
    replace g5 := g5.drew
    replace g6 : w.heap.size + 3 ≤ W.drew.heap.size := g6
    replace g9 : KeepsT g w W.drew := g9
    have g4W := hid (show W.heap[w.heap.size + 1 + 1]? = _ from g4)
    generalize W.drew = V0 at *
    refine tkE 0 hHeld ?_
    refine tkE 1 hHeld ?_
    refine tkE 2 hHeld ?_
    refine tkE 3 hHeld ?_
    refine tkE 4 hHeld ?_
    refine tkE 5 hHeld ?_
    refine tkE 6 hHeld ?_
    refine rdE 7 (fun KK hKK => ?_)
    go_simp
    try go_wp2_with fail
    have gn := Blk.new V0 5 #[.int .u8 x]
    replace ko := ko.trans (KeepsOthers.alloc V0 (.cells #[.int .u8 x] 5))
    replace kb : KeepsB (w.heap.size + 1 + 1) W (V0.alloc (.cells #[.int .u8 x] 5)) := (Below.heap_alloc V0 _ (w.heap.size + 1 + 1) (by omega)).trans kb
    replace g1 := g1.alloc (.cells #[.int .u8 x] 5)
    replace g2 := g2.alloc (.cells #[.int .u8 x] 5)
    replace g3 := g3.alloc (.cells #[.int .u8 x] 5)
    replace g4 := g4.alloc (.cells #[.int .u8 x] 5)
    replace g5 := g5.alloc (by omega) (.cells #[.int .u8 x] 5)
    have g8 : w.heap.size + 3 ≤ (V0.alloc (.cells #[.int .u8 x] 5)).heap.size := by simp; omega
    replace g9 : KeepsT g w (V0.alloc (.cells #[.int .u8 x] 5)) := g9.trans fun i t cs _ _ h => h.alloc _
    generalize V0.alloc (.cells #[.int .u8 x] 5) = V2 at *
    generalize V0.heap.size = gn1 at *
    refine hKK.out _ _ ⟨g3.cell 0, g1.cell 0⟩ (fun hHeld => ?_)
    clear hKK KK
    try (simp only [Act.put, List.setIfInBounds_toArray, List.set_cons_zero, List.set_cons_succ])
    refine rdE 8 (fun KK hKK => ?_)
    rw [if_pos (by kernel_rfl)]
    refine wp_app (.tmp 28) (.tmp 30) _ rfl base 5 i0 0 1 Tryz.underlying28 hi0 hz0 hz1 hz2 X nn d ls rfl g2 (gn1 + 1) (some ⟨gn1, 0, none⟩) 1 1 [x] rfl (Row.blk gn rfl (by omega)) (by unfold maxLen; omega) (by omega) (by omega) ?_
    intro X2 c2 V3 go3 gg3
    have hne : ∀ {g t cs}, Blk V2 g t cs → 5 ≠ t → some g ≠ (Value.slice X nn d).ownBlock := fun hb ht => Own.ne_ g2 hb ht
    replace ko := ko.trans (KeepsOthers.of_grownBy gg3 (fun j o e ho => by
      rcases g2.2 with ⟨hv, _⟩ | ⟨g', cap, cur, hv, _, hh, _⟩
      · rw [hv] at e; cases e
      · rw [hv] at e
        have e2 : g' = j := by simpa [Value.ownBlock] using e
        subst e2
        rw [hh] at ho
        cases ho
        rfl))
    have q4 := hne g4 (by decide)
    replace kb : KeepsB (w.heap.size + 1 + 1) W V3 := (gg3.block (w.heap.size + 1 + 1) (by omega) q4).trans kb
    have q1 := hne g1 (by decide)
    have q3 := hne g3 (by decide)
    replace g5 := own_below g5 g2 gg3 (by omega)
    replace g1 := g1.grown gg3 q1
    replace g3 := g3.grown gg3 q3
    replace g4 := g4.grown gg3 q4
    replace g8 : w.heap.size + 3 ≤ V3.heap.size := Nat.le_trans g8 gg3.size
    replace g9 : KeepsT g w V3 := g9.trans fun i t cs ht _ h => h.grown gg3 (hne h ht)
    clear gg3 g2 gn hne q1 q3 q4
    refine hKK.out _ _ ⟨g3.cell 0, g1.cell 0⟩ (fun hHeld => ?_)
    clear hKK KK
    try (simp only [Act.put, List.setIfInBounds_toArray, List.set_cons_zero, List.set_cons_succ])
    refine rdE 9 (fun KK hKK => ?_)
    go_simp
    try go_wp2_with fail
    refine hKK.out _ _ ⟨g3.cell 0, g1.cell 0⟩ (fun hHeld => ?_)
    clear hKK KK
    try (simp only [Act.put, List.setIfInBounds_toArray, List.set_cons_zero, List.set_cons_succ])
    refine rdE 10 (fun KK hKK => ?_)
    go_simp
    try go_wp2_with fail
    refine hKK.out _ _ ⟨g3.cell 0, g1.cell 0⟩ (fun hHeld => ?_)
    clear hKK KK
    try (simp only [Act.put, List.setIfInBounds_toArray, List.set_cons_zero, List.set_cons_succ])
    refine rdE 11 (fun KK hKK => ?_)
    go_simp
    try go_wp2_with fail
    refine hKK.out _ _ ⟨g3.cell 0, g1.cell 0⟩ (fun hHeld => ?_)
    clear hKK KK
    try (simp only [Act.put, List.setIfInBounds_toArray, List.set_cons_zero, List.set_cons_succ])
    refine rdLast 12 (fun KK hKK => ?_)
    have z0 := g1.frozen 0
    have y0 : V3.cell? ⟨g, 0, none⟩ = some (.slice X nn d) := g1.cell 0
    go_simp
    try go_wp2_with fail
    refine hKK.out _ _ ?_
    clear hKK KK hHeld
    refine doneE ?_ (by kernel_rfl) _
    have E1 := ko.trans (KeepsOthers.setCell V3 ⟨g, 0, none⟩ (.slice X2 (nn + 1) c2))
    have E2 : KeepsB (w.heap.size + 1 + 1) W (V3.setCell ⟨g, 0, none⟩ (.slice X2 (nn + 1) c2)) := (Below.heap_setCell V3 ⟨g, 0, none⟩ (.slice X2 (nn + 1) c2) (w.heap.size + 1 + 1) (by dsimp only; omega)).trans kb
    have t1 : Blk (V3.setCell ⟨g, 0, none⟩ (.slice X2 (nn + 1) c2)) g 335 #[.slice X2 (nn + 1) c2, .bool true, .bool false] := g1.set_ 0 (.slice X2 (nn + 1) c2)
    have t2 := go3.setFar g1 (by decide) 0 (.slice X2 (nn + 1) c2)
    have t3 := g3.far (p := ⟨g, 0, none⟩) (by dsimp only; omega) (.slice X2 (nn + 1) c2)
    have t4 := g4.far (p := ⟨g, 0, none⟩) (by dsimp only; omega) (.slice X2 (nn + 1) c2)
    have t5 := g5.setCell (p := ⟨g, 0, none⟩) (by dsimp only; omega) (.slice X2 (nn + 1) c2)
    have t6 : w.heap.size + 3 ≤ (V3.setCell ⟨g, 0, none⟩ (.slice X2 (nn + 1) c2)).heap.size := by simpa [World.setCell] using g8
    have t9 : KeepsT g w (V3.setCell ⟨g, 0, none⟩ (.slice X2 (nn + 1) c2)) := g9.trans fun i t cs _ hi h => h.far (by dsimp only; omega) _
    refine (show _ ∧ _ ∧ _ from ⟨E1, E2, X2, c2, v, ?_, ?_, t3, t4, t5, t6, t9⟩)
    · rw [HLN.out, ← HNN.out]; exact t1
    · rw [HLN.out, HYS.out, ← HNN.out]; exact t2
end Go.Proofs.YtldoocndhfgjhaaGreat
namespace Go.Proofs.YtldoocndhfgjhaaGreat
open Go.RowKit
set_option linter.unusedVariables false
set_option linter.unusedSimpArgs false

/-- A number of n bytes is written. -/
def Wrote (n : Nat) (u : Int) (g base m : Nat) (ys : List Int) (w : World) (e : Ending) (w' : World) : Prop := e = .returned (.tuple #[]) ∧ ∃ A' c', Wr w' g (.slice A' (m + n) c') ∧ Own .u8 w' base 5 A' (m + n) c' (ys ++ leP n u) ∧ Below base w w' ∧ KeepsT g w w'
theorem o_U1 (u : Int) (g base m c : Nat) (A : Option Addr) (ys : List Int) (w : World) (hu : 0 ≤ u ∧ u < 256) (hb : Wr w g (.slice A m c)) (ho : Own .u8 w base 5 A m c ys) (hg : base ≤ g) (hm : m ≤ 1000000) (hbs : base ≤ w.heap.size) :
    Calls Tryz.prog 135 #[.pointer (some ⟨g, 0, none⟩), .int .i64 1, .int .u64 u] w (Wrote 1 u g base m ys w) := by
  have H := hid (o_put 1 u g base m c A ys w (by omega) (by omega) hb ho hg hm hbs)
  have HW : Hid (∀ e w', (e = .returned (.tuple #[]) ∧ ∃ A' c', Wr w' g (.slice A' (m + 1) c') ∧ Own .u8 w' base 5 A' (m + 1) c' (ys ++ leP 1 u) ∧ Below base w w' ∧ KeepsT g w w') → Wrote 1 u g base m ys w e w') := hid fun _ _ h => h
  have e1 : u / 256 = 0 := by omega
  clear hb ho
  go_enter Tryz.func135, Tryz.ntmps135
  go_wp2_with fail
  refine H.out.mono ?_
  intro e w1 h1
  have h2 := hid h1
  obtain ⟨rfl, _⟩ := h1
  go_wp2
  go_end0
  exact HW.out _ _ ⟨rfl, h2.out.2⟩
theorem o_U4 (u : Int) (g base m c : Nat) (A : Option Addr) (ys : List Int) (w : World) (hu : 0 ≤ u ∧ u < 4294967296) (hb : Wr w g (.slice A m c)) (ho : Own .u8 w base 5 A m c ys) (hg : base ≤ g) (hm : m ≤ 1000000) (hbs : base ≤ w.heap.size) :
    Calls Tryz.prog 135 #[.pointer (some ⟨g, 0, none⟩), .int .i64 4, .int .u64 u] w (Wrote 4 u g base m ys w) := by
  have H := hid (o_put 4 u g base m c A ys w (by omega) (by omega) hb ho hg hm hbs)
  have HW : Hid (∀ e w', (e = .returned (.tuple #[]) ∧ ∃ A' c', Wr w' g (.slice A' (m + 4) c') ∧ Own .u8 w' base 5 A' (m + 4) c' (ys ++ leP 4 u) ∧ Below base w w' ∧ KeepsT g w w') → Wrote 4 u g base m ys w e w') := hid fun _ _ h => h
  have e1 : u / 4294967296 = 0 := by omega
  clear hb ho
  go_enter Tryz.func135, Tryz.ntmps135
  go_wp2_with fail
  refine H.out.mono ?_
  intro e w1 h1
  have h2 := hid h1
  obtain ⟨rfl, _⟩ := h1
  go_wp2
  go_end0
  exact HW.out _ _ ⟨rfl, h2.out.2⟩
theorem o_I2 (g base m c : Nat) (A : Option Addr) (ys : List Int) (w : World) (hb : Wr w g (.slice A m c)) (ho : Own .u8 w base 5 A m c ys) (hg : base ≤ g) (hm : m ≤ 1000000) (hbs : base ≤ w.heap.size) :
    Calls Tryz.prog 112 #[.pointer (some ⟨g, 0, none⟩), .int .i64 2, .int .i64 0] w (Wrote 2 0 g base m ys w) := by
  have H := hid (o_put 2 0 g base m c A ys w (by omega) (by omega) hb ho hg hm hbs)
  have HW : Hid (∀ e w', (e = .returned (.tuple #[]) ∧ ∃ A' c', Wr w' g (.slice A' (m + 2) c') ∧ Own .u8 w' base 5 A' (m + 2) c' (ys ++ leP 2 0) ∧ Below base w w' ∧ KeepsT g w w') → Wrote 2 0 g base m ys w e w') := hid fun _ _ h => h
  clear hb ho
  go_enter Tryz.func112, Tryz.ntmps112
  go_wp2_with fail
  refine H.out.mono ?_
  intro e w1 h1
  have h2 := hid h1
  obtain ⟨rfl, _⟩ := h1
  go_wp2
  go_end0
  exact HW.out _ _ ⟨rfl, h2.out.2⟩
/-- A copy of some bytes: a new block. -/
def Copied (n : Nat) (xs : List Int) (w : World) (e : Ending) (w' : World) : Prop := ∃ A' c', e = .returned (.slice A' n c') ∧ Own .u8 w' w.heap.size 5 A' n c' xs ∧ Below w.heap.size w w'
theorem o_Clone (ad : Addr) (n cap : Nat) (xs : List Int) (w : World) (h : Row .u8 w w.heap.size (some ad) n xs) (hn : n ≤ 100000) :
    Calls Tryz.prog 111 #[.slice (some ad) n cap] w (Copied n xs w) := by
  obtain ⟨i0, hi, hz, hz1, hz2⟩ := info_parts3 info8o
  have ke := eql_nil 28 5 ad n cap Tryz.underlying28
  have HC : Hid (∀ A' c' w', Own .u8 w' w.heap.size 5 A' n c' xs → Below w.heap.size w w' → Copied n xs w (.returned (.slice A' n c')) w') := hid fun A' c' w' h1 h2 => ⟨A', c', rfl, h1, h2⟩
  go_enter Tryz.func111, Tryz.ntmps111
  go_wp2_with (first
    | (at_builtin; refine wpList_app rfl (.tmp 5) (.tmp 6) _ rfl w.heap.size 5 i0 0 1 Tryz.underlying28 hi hz hz1 hz2 (some ⟨w.heap.size, 0, none⟩) 0 0 [] rfl (Own.empty .u8 w _ (Nat.le_refl _)) w.heap.size (some ad) n cap xs rfl (h.alloc (Nat.le_refl _) _) (by unfold maxLen; omega) (by omega) (by simp) ?_; intro A2 c2 w2 ho2 hg2; simp only [Nat.zero_add, List.nil_append] at ho2; have hb2 := own_below ((Below.refl w.heap.size w).alloc (Nat.le_refl _) _) (Own.empty .u8 w _ (Nat.le_refl _)) hg2 (by simp)))
  go_ret
  exact HC.out _ _ _ ho2 hb2
theorem o_Bytes (g : Nat) (ad : Addr) (n c : Nat) (xs : List Int) (w : World) (hb : Wr w g (.slice (some ad) n c)) (h : Row .u8 w w.heap.size (some ad) n xs) (hn : n ≤ 100000) :
    Calls Tryz.prog 137 #[.pointer (some ⟨g, 0, none⟩)] w (Copied n xs w) := by
  have c0 : w.cell? ⟨g, 0, none⟩ = some (.slice (some ad) n c) := hb.cell 0
  have H := hid (o_Fail g _ _ w hb)
  have H2 := hid (o_Clone ad n c xs w h hn)
  have HC : Hid (∀ A' c' w', Own .u8 w' w.heap.size 5 A' n c' xs → Below w.heap.size w w' → Copied n xs w (.returned (.slice A' n c')) w') := hid fun A' c' w' h1 h2 => ⟨A', c', rfl, h1, h2⟩
  clear h hb
  go_enter Tryz.func137, Tryz.ntmps137
  go_wp2_with fail
  refine H.out.mono ?_
  rintro e w1 ⟨rfl, rfl⟩
  go_wp2_with fail
  refine H2.out.mono ?_
  rintro e w2 ⟨A', c', rfl, h1, h2⟩
  have h3 := hid h1
  clear h1
  go_wp2
  go_ret
  exact HC.out _ _ _ h3.out h2
end Go.Proofs.YtldoocndhfgjhaaGreat
