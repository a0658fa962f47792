/- Chapter 44: what lies between two steps; the packet of an event, taken. -/
import Derived.Test.YtldoocndhfgjhaaGreatDueF
import Derived.Test.YtldoocndhfgjhaaGreatTlmD
import Derived.Test.YtldoocndhfgjhaaGreatNodeN
namespace Go.Proofs.YtldoocndhfgjhaaGreat
open Go.RowKit
set_option linter.unusedVariables false
set_option linter.unusedSimpArgs false

theorem NIdle.keptE {P : Nat → Prop} {w w' : World} {nb db wa q mb g cap tA tB : Nat} {s now : Int} {H A B : Value} {k : Nat} (h : NIdle w nb db wa q mb g cap tA tB s now H A B k) (hk : Kept P w w') (hP : ∀ i, i < w.heap.size → P i → ∃ cs, Blk w i 75 cs) : NIdle w' nb db wa q mb g cap tA tB s now H A B k := by
  refine ⟨hk.blk h.node (fun hp => ?_), hk.blk h.dec (fun hp => ?_), h.tms.keptP hk (fun i t cs hi hB ht => ?_)⟩
  · obtain ⟨cs, hc⟩ := hP _ h.node.lt hp
    exact absurd (hc.alone h.node) (by decide)
  · obtain ⟨cs, hc⟩ := hP _ h.dec.lt hp
    exact absurd (hc.alone h.dec) (by decide)
  · obtain ⟨cs', hc⟩ := hP _ hB.lt hi
    have := hB.alone hc
    subst this
    revert ht
    decide
theorem NIdle.below {w w' : World} {nb db wa q mb g cap tA tB : Nat} {s now : Int} {H A B : Value} {k : Nat} (h : NIdle w nb db wa q mb g cap tA tB s now H A B k) (hb : Below w.heap.size w w') : NIdle w' nb db wa q mb g cap tA tB s now H A B k :=
  h.keptE (Kept.of_below (P := fun _ => False) hb) (fun _ _ h => h.elim)
theorem Evs.below {w w' : World} {i0 : Nat} {evs : List (List Value)} (h : Evs w i0 evs) (hb : Below w.heap.size w w') : Evs w' i0 evs := h.keptP (Kept.of_below (P := fun _ => False) hb) (fun _ _ h _ => h.elim)
theorem pd_typed {w : World} {nb db wa q mb g cap tA tB : Nat} {s now : Int} {H A B : Value} {k : Nat} (h : NIdle w nb db wa q mb g cap tA tB s now H A B k) (i : Nat) (hi : PD nb g tA tB i) : ∃ cs, Blk w i 106 cs ∨ Blk w i 140 cs ∨ Blk w i 142 cs := by
  rcases hi with rfl | hi
  · exact ⟨_, .inl h.node⟩
  · obtain ⟨cs, h1 | h1⟩ := p3_typed h.tms i hi
    · exact ⟨cs, .inr (.inl h1)⟩
    · exact ⟨cs, .inr (.inr h1)⟩
theorem Evs.two {w : World} {i0 : Nat} {evs evs' : List (List Value)} (h : Evs w i0 evs) (h' : Evs w (i0 + evs.length) evs') : Evs w i0 (evs ++ evs') := by
  intro j p hj
  by_cases hlt : j < evs.length
  · rw [List.getElem?_append_left hlt] at hj
    exact h j p hj
  · rw [List.getElem?_append_right (by omega)] at hj
    obtain ⟨X, d, h1, h2⟩ := h' (j - evs.length) p hj
    have e : i0 + evs.length + (j - evs.length) = i0 + j := by omega
    rw [e] at h1 h2
    exact ⟨X, d, h1, h2⟩
/-- How many words and beats there are by a time. -/
theorem wd_cnt (now : Int) (h : 0 ≤ now) : ((wd (cntP now) : Nat) : Int) = now / 100 ∧ ((bt (cntP now) : Nat) : Int) = now / 1000 := by
  unfold wd bt cntP
  omega
theorem wd_beat (k : Nat) (h : k % 11 = 9) : wd (k + 1) = wd k ∧ bt (k + 1) = bt k + 1 := by
  unfold wd bt
  omega
theorem wd_word (k : Nat) (h : ¬ k % 11 = 9) : wd (k + 1) = wd k + 1 ∧ bt (k + 1) = bt k := by
  unfold wd bt
  omega
theorem wd_le (k : Nat) : wd k ≤ k ∧ bt k ≤ k := by
  unfold wd bt
  omega
/-- What Take makes of an event's packet. -/
def TkE (k : Nat) (w : World) (e : Ending) (w' : World) : Prop :=
  ∃ (id N : Int) (g m : Nat), e = .returned (.tuple #[.agg #[.int .i64 ((k : Int) % 256), .int .i64 1, .int .i64 1, .int .i64 id, .slice (some ⟨g, 0, none⟩) m m], .int .i64 N, .int .i64 0]) ∧ Below w.heap.size w w' ∧
    ((k % 11 = 9 ∧ id = 0) ∨ (¬ k % 11 = 9 ∧ id = 200 ∧ m = 5 ∧ w'.cell? ⟨g, 0, none⟩ = some (.int .i64 (dueW k)) ∧ w'.cell? ⟨g, 1, none⟩ = some (.int .i64 537395712)))
theorem t_event (k d : Nat) (X : Option Addr) (w : World) (hk : k ≤ 5000) (hx : Own .u8 w 0 5 X (lenP k) d (pktP k)) :
    Calls Tryz.prog 7 #[.slice X (lenP k) d] w (TkE k w) := by
  have h8 : U8 ((k : Int) % 256) := by unfold U8; omega
  by_cases h : k % 11 = 9
  · have e1 : lenP k = 17 := if_pos h
    have e2 : pktP k = pkt0 ((k : Int) % 256) [6, 8, 0, 0, 4, 3] := if_pos h
    rw [e1, e2] at hx
    rw [e1]
    obtain ⟨g, rfl, _, _⟩ := hx.pos (by omega)
    have hc : 17 ≤ d := by
      rcases hx.form with ⟨_, h0, _⟩ | ⟨_, _, _, _, h4⟩
      · omega
      · exact h4
    refine (t_Take0 ((k : Int) % 256) ⟨g, 0, none⟩ d [6, 8, 0, 0, 4, 3] w h8 hc rfl hx.row vk0).mono ?_
    rintro e w' ⟨g', rfl, _, hb⟩
    exact ⟨0, 17, g', 6, rfl, hb, .inl ⟨h, rfl⟩⟩
  · have e1 : lenP k = 22 := if_neg h
    have e2 : pktP k = pkt200 ((k : Int) % 256) [dueW k, 537395712, 0, 0, 0] := if_neg h
    rw [e1, e2] at hx
    rw [e1]
    obtain ⟨g, rfl, _, _⟩ := hx.pos (by omega)
    have hc : 22 ≤ d := by
      rcases hx.form with ⟨_, h0, _⟩ | ⟨_, _, _, _, h4⟩
      · omega
      · exact h4
    have hd : 0 ≤ dueW k ∧ dueW k ≤ 1000000 := by unfold dueW wd; omega
    refine (t_Take200 ((k : Int) % 256) ⟨g, 0, none⟩ d [dueW k, 537395712, 0, 0, 0] w h8 hc rfl hx.row (vk200 _ _ hd (by decide))).mono ?_
    rintro e w' ⟨g', rfl, ho, hb⟩
    exact ⟨200, 22, g', 5, rfl, hb, .inr ⟨h, rfl, rfl, ho.cell (j := 0) (by omega), ho.cell (j := 1) (by omega)⟩⟩
end Go.Proofs.YtldoocndhfgjhaaGreat
namespace Go.Proofs.YtldoocndhfgjhaaGreat
open Go.RowKit
set_option linter.unusedVariables false
set_option linter.unusedSimpArgs false

theorem top_num (x : Int) (w : World) : Calls Tryz.prog 8 #[.int .i64 x] w fun e w' => e = .returned (.int .i64 x) ∧ w' = w := by
  go_enter Tryz.func8, Tryz.ntmps8
  go_wp2
  go_ret
  exact ⟨rfl, rfl⟩
theorem cnt_1000 : cntP 1000 = 11 := by decide
set_option maxRecDepth 20000 in
theorem top_knows (w : World) : Calls Tryz.prog 4 #[] w fun e w' => e = .returned (.bool true) ∧ Below w.heap.size w w' := by
  go_enter Tryz.func4, Tryz.ntmps4
  go_wp2_with fail
  refine (n_New w).mono ?_
  rintro e w1 ⟨nb, db, wa, q, mb, g, cap, tA, tB, H, A, B, rfl, hI, hb, hp⟩
  have HI := hid hI
  have HB := hid hb
  have HP := hid hp
  clear hI hb hp
  go_wp2_with fail
  refine (n_Do word0 nb db wa q mb g cap tA tB 0 0 0 1000 1000 H A B w1 rfl (by decide) (by decide) (by decide) (by decide) (by decide) HI.out).mono ?_
  rintro e w2 ⟨n, c, base, O, s, evs, rfl, _, hn, _, _, _, _, _, hk⟩
  have hn2 : n = 11 := by rw [cnt_1000] at hn; omega
  subst hn2
  have hb2 : Below w.heap.size w w2 := HB.out.trans (hk.to_below HP.out HB.out.size)
  clear hn hk
  go_wp2
  go_ret
  exact ⟨rfl, hb2⟩
end Go.Proofs.YtldoocndhfgjhaaGreat
