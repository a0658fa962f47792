/- Chapter 43: the heap of two timers is put right. -/
import Derived.Test.YtldoocndhfgjhaaGreatDueC
namespace Go.Proofs.YtldoocndhfgjhaaGreat
open Go.RowKit
set_option linter.unusedVariables false
set_option linter.unusedSimpArgs false

set_option maxRecDepth 100000 in
set_option maxHeartbeats 4000000 in
theorem h_down_no (q g c ta tb : Nat) (mv : Value) (ia aa ea pa ib ab eb pb : Int) (cs : List Value) (w : World) (hQ : Blk w q 130 #[.slice (some ⟨g, 0, none⟩) 2 c, mv]) (hG : Blk w g 140 ((.pointer (some ⟨ta, 0, none⟩)) :: (.pointer (some ⟨tb, 0, none⟩)) :: cs).toArray) (hA : Blk w ta 142 #[.int .i64 ia, .int .i64 aa, .int .i64 ea, .int .i64 pa]) (hB : Blk w tb 142 #[.int .i64 ib, .int .i64 ab, .int .i64 eb, .int .i64 pb]) (hbef : befP ib ab ia aa = false) :
    Calls Tryz.prog 77 #[.iface 144 (.pointer (some ⟨q, 0, none⟩)), .int .i64 0, .int .i64 2] w fun e w' => e = .returned (.bool false) ∧ Below w.heap.size w w' := by
  go_enter Tryz.func77, Tryz.ntmps77
  go_wp2_with fail
  refine wp_loop_rounds 2 ?_
  rw [rounds_succ]
  have hm := m_Less q (.slice (some ⟨g, 0, none⟩) 2 c) w (hQ.cell 0)
  go_wp2_with fail
  refine (d_Less g c ta tb ia aa ea pa ib ab eb pb w (hG.cell 0) (hG.cell 1) hA hB).mono ?_
  rintro e w1 ⟨rfl, b1⟩
  clear hm
  rw [hbef]
  go_wp2
  go_ret
  exact ⟨rfl, b1⟩
set_option maxRecDepth 100000 in
set_option maxHeartbeats 4000000 in
theorem h_down_yes (q g c ta tb : Nat) (mv : Value) (ia aa ea pa ib ab eb pb : Int) (cs : List Value) (w : World) (hQ : Blk w q 130 #[.slice (some ⟨g, 0, none⟩) 2 c, mv]) (hG : Blk w g 140 ((.pointer (some ⟨ta, 0, none⟩)) :: (.pointer (some ⟨tb, 0, none⟩)) :: cs).toArray) (hA : Blk w ta 142 #[.int .i64 ia, .int .i64 aa, .int .i64 ea, .int .i64 pa]) (hB : Blk w tb 142 #[.int .i64 ib, .int .i64 ab, .int .i64 eb, .int .i64 pb]) (h1 : ta ≠ tb) (h2 : g ≠ ta) (h3 : g ≠ tb) (h4 : q ≠ g) (h5 : q ≠ ta) (h6 : q ≠ tb) (hbef : befP ib ab ia aa = true) :
    Calls Tryz.prog 77 #[.iface 144 (.pointer (some ⟨q, 0, none⟩)), .int .i64 0, .int .i64 2] w fun e w' => e = .returned (.bool true) ∧ Blk w' g 140 ((.pointer (some ⟨tb, 0, none⟩)) :: (.pointer (some ⟨ta, 0, none⟩)) :: cs).toArray ∧ Blk w' ta 142 #[.int .i64 ia, .int .i64 aa, .int .i64 ea, .int .i64 1] ∧ Blk w' tb 142 #[.int .i64 ib, .int .i64 ab, .int .i64 eb, .int .i64 0] ∧ Kept (P3 g ta tb) w w' := by
  go_enter Tryz.func77, Tryz.ntmps77
  go_wp2_with fail
  refine wp_loop_rounds 2 ?_
  rw [rounds_succ]
  have hm := m_Less q (.slice (some ⟨g, 0, none⟩) 2 c) w (hQ.cell 0)
  go_wp2_with fail
  refine (d_Less g c ta tb ia aa ea pa ib ab eb pb w (hG.cell 0) (hG.cell 1) hA hB).mono ?_
  rintro e w1 ⟨rfl, b1⟩
  clear hm
  rw [hbef]
  have hQ1 := hQ.below b1 hQ.lt
  have hG1 := hG.below b1 hG.lt
  have hA1 := hA.below b1 hA.lt
  have hB1 := hB.below b1 hB.lt
  have hm := m_Swap q (.slice (some ⟨g, 0, none⟩) 2 c) w1 (hQ1.cell 0)
  go_wp2_with fail
  refine (d_Swap g c ta tb ia aa ea pa ib ab eb pb cs w1 hG1 hA1 hB1 h1 h2 h3).mono ?_
  rintro e w2 ⟨rfl, g2, a2, b2, k2⟩
  clear hm
  have hk := (Kept.of_below (P := P3 g ta tb) b1).trans k2
  have H1 := hid g2
  have H2 := hid a2
  have H3 := hid b2
  clear g2 a2 b2 hQ1 hG1 hA1 hB1 hQ hG hA hB
  go_wp2_with fail
  rw [rounds_succ]
  go_wp2
  go_ret
  exact ⟨rfl, H1.out, H2.out, H3.out, hk⟩
set_option maxRecDepth 100000 in
set_option maxHeartbeats 4000000 in
theorem h_up0 (v : Value) (w : World) : Calls Tryz.prog 45 #[v, .int .i64 0] w fun e w' => e = .returned (.tuple #[]) ∧ w' = w := by
  go_enter Tryz.func45, Tryz.ntmps45
  go_wp2_with fail
  refine wp_loop_rounds 1 ?_
  rw [rounds_succ]
  go_wp2
  go_end0
  exact ⟨rfl, rfl⟩
set_option maxRecDepth 100000 in
set_option maxHeartbeats 4000000 in
theorem h_up1 (q g c ta tb : Nat) (mv : Value) (ia aa ea pa ib ab eb pb : Int) (cs : List Value) (w : World) (hQ : Blk w q 130 #[.slice (some ⟨g, 0, none⟩) 2 c, mv]) (hG : Blk w g 140 ((.pointer (some ⟨ta, 0, none⟩)) :: (.pointer (some ⟨tb, 0, none⟩)) :: cs).toArray) (hA : Blk w ta 142 #[.int .i64 ia, .int .i64 aa, .int .i64 ea, .int .i64 pa]) (hB : Blk w tb 142 #[.int .i64 ib, .int .i64 ab, .int .i64 eb, .int .i64 pb]) (h1 : ta ≠ tb) (h2 : g ≠ ta) (h3 : g ≠ tb) (h4 : q ≠ g) (h5 : q ≠ ta) (h6 : q ≠ tb) (hbef : befP ib ab ia aa = true) :
    Calls Tryz.prog 45 #[.iface 144 (.pointer (some ⟨q, 0, none⟩)), .int .i64 1] w fun e w' => e = .returned (.tuple #[]) ∧ Blk w' g 140 ((.pointer (some ⟨tb, 0, none⟩)) :: (.pointer (some ⟨ta, 0, none⟩)) :: cs).toArray ∧ Blk w' ta 142 #[.int .i64 ia, .int .i64 aa, .int .i64 ea, .int .i64 1] ∧ Blk w' tb 142 #[.int .i64 ib, .int .i64 ab, .int .i64 eb, .int .i64 0] ∧ Kept (P3 g ta tb) w w' := by
  go_enter Tryz.func45, Tryz.ntmps45
  go_wp2_with fail
  refine wp_loop_rounds 2 ?_
  rw [rounds_succ]
  have hm := m_Less q (.slice (some ⟨g, 0, none⟩) 2 c) w (hQ.cell 0)
  go_wp2_with fail
  refine (d_Less g c ta tb ia aa ea pa ib ab eb pb w (hG.cell 0) (hG.cell 1) hA hB).mono ?_
  rintro e w1 ⟨rfl, b1⟩
  clear hm
  rw [hbef]
  have hQ1 := hQ.below b1 hQ.lt
  have hG1 := hG.below b1 hG.lt
  have hA1 := hA.below b1 hA.lt
  have hB1 := hB.below b1 hB.lt
  have hm := m_Swap q (.slice (some ⟨g, 0, none⟩) 2 c) w1 (hQ1.cell 0)
  go_wp2_with fail
  refine (d_Swap g c ta tb ia aa ea pa ib ab eb pb cs w1 hG1 hA1 hB1 h1 h2 h3).mono ?_
  rintro e w2 ⟨rfl, g2, a2, b2, k2⟩
  clear hm
  have hk := (Kept.of_below (P := P3 g ta tb) b1).trans k2
  have H1 := hid g2
  have H2 := hid a2
  have H3 := hid b2
  clear g2 a2 b2 hQ1 hG1 hA1 hB1 hQ hG hA hB
  go_wp2_with fail
  rw [rounds_succ]
  go_wp2
  go_end0
  exact ⟨rfl, H1.out, H2.out, H3.out, hk⟩
set_option maxRecDepth 100000 in
theorem h_Fix_no (q g c ta tb : Nat) (mv : Value) (ia aa ea pa ib ab eb pb : Int) (cs : List Value) (w : World) (hQ : Blk w q 130 #[.slice (some ⟨g, 0, none⟩) 2 c, mv]) (hG : Blk w g 140 ((.pointer (some ⟨ta, 0, none⟩)) :: (.pointer (some ⟨tb, 0, none⟩)) :: cs).toArray) (hA : Blk w ta 142 #[.int .i64 ia, .int .i64 aa, .int .i64 ea, .int .i64 pa]) (hB : Blk w tb 142 #[.int .i64 ib, .int .i64 ab, .int .i64 eb, .int .i64 pb]) (hbef : befP ib ab ia aa = false) :
    Calls Tryz.prog 85 #[.iface 144 (.pointer (some ⟨q, 0, none⟩)), .int .i64 0] w fun e w' => e = .returned (.tuple #[]) ∧ Below w.heap.size w w' := by
  have hm := m_Len q (.slice (some ⟨g, 0, none⟩) 2 c) w (hQ.cell 0)
  have H := hid (h_down_no q g c ta tb mv ia aa ea pa ib ab eb pb cs w hQ hG hA hB hbef)
  clear hQ hG hA hB
  go_enter Tryz.func85, Tryz.ntmps85
  go_wp2_with fail
  refine (d_Len (some ⟨g, 0, none⟩) 2 c w).mono ?_
  rintro e w1 ⟨rfl, rfl⟩
  clear hm
  go_wp2_with fail
  refine H.out.mono ?_
  rintro e w1 ⟨rfl, b1⟩
  go_wp2_with fail
  refine (h_up0 _ w1).mono ?_
  rintro e w2 ⟨rfl, rfl⟩
  go_wp2
  go_end0
  exact ⟨rfl, b1⟩
set_option maxRecDepth 100000 in
theorem h_Fix_yes (q g c ta tb : Nat) (mv : Value) (ia aa ea pa ib ab eb pb : Int) (cs : List Value) (w : World) (hQ : Blk w q 130 #[.slice (some ⟨g, 0, none⟩) 2 c, mv]) (hG : Blk w g 140 ((.pointer (some ⟨ta, 0, none⟩)) :: (.pointer (some ⟨tb, 0, none⟩)) :: cs).toArray) (hA : Blk w ta 142 #[.int .i64 ia, .int .i64 aa, .int .i64 ea, .int .i64 pa]) (hB : Blk w tb 142 #[.int .i64 ib, .int .i64 ab, .int .i64 eb, .int .i64 pb]) (h1 : ta ≠ tb) (h2 : g ≠ ta) (h3 : g ≠ tb) (h4 : q ≠ g) (h5 : q ≠ ta) (h6 : q ≠ tb) (hbef : befP ib ab ia aa = true) :
    Calls Tryz.prog 85 #[.iface 144 (.pointer (some ⟨q, 0, none⟩)), .int .i64 0] w fun e w' => e = .returned (.tuple #[]) ∧ Blk w' g 140 ((.pointer (some ⟨tb, 0, none⟩)) :: (.pointer (some ⟨ta, 0, none⟩)) :: cs).toArray ∧ Blk w' ta 142 #[.int .i64 ia, .int .i64 aa, .int .i64 ea, .int .i64 1] ∧ Blk w' tb 142 #[.int .i64 ib, .int .i64 ab, .int .i64 eb, .int .i64 0] ∧ Kept (P3 g ta tb) w w' := by
  have hm := m_Len q (.slice (some ⟨g, 0, none⟩) 2 c) w (hQ.cell 0)
  have H := hid (h_down_yes q g c ta tb mv ia aa ea pa ib ab eb pb cs w hQ hG hA hB h1 h2 h3 h4 h5 h6 hbef)
  clear hQ hG hA hB
  go_enter Tryz.func85, Tryz.ntmps85
  go_wp2_with fail
  refine (d_Len (some ⟨g, 0, none⟩) 2 c w).mono ?_
  rintro e w1 ⟨rfl, rfl⟩
  clear hm
  go_wp2_with fail
  refine H.out.mono ?_
  rintro e w1 ⟨rfl, g2, a2, b2, k2⟩
  have H1 := hid g2
  have H2 := hid a2
  have H3 := hid b2
  clear g2 a2 b2
  go_wp2
  go_end0
  exact ⟨rfl, H1.out, H2.out, H3.out, k2⟩
end Go.Proofs.YtldoocndhfgjhaaGreat
