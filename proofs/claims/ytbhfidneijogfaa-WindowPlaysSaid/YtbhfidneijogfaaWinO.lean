/- Chapter 39: the walk of WindowPlays. -/
import Derived.Test.YtbhfidneijogfaaWinN
namespace Go.Proofs.Ytbhfidneijogfaa
open Go.RowKit
set_option linter.unusedVariables false
set_option linter.unusedSimpArgs false

/-- An operation that is not wanted is passed over. -/
theorem tku {P : Program} {md : Region.Mode} {ops : Array Oper} {Q : Exit → Act → World → Prop} {S : World → Prop} (i : Nat) {oi : Oper} {fuel : Nat} {listed L : Array Bool} {a a' : Act} {w : World} (hS : S w) (h : wpAnyH P md ops Q S fuel L a' w)
    (hi : ops[i]? = some oi := by simp only [List.getElem?_toArray, List.getElem?_cons_zero, List.getElem?_cons_succ]; rfl)
    (hs : Region.noSelect ops = true := by kernel_rfl) (hf : Region.free md ops listed i = true := by kernel_rfl) (hr : (Region.ready md ops listed).contains i = true := by kernel_rfl)
    (hw : Region.wanted oi (yielded ops a.tmps) = false := by kernel_rfl)
    (hL : listed.setIfInBounds i true = L := by (try simp only [List.setIfInBounds_toArray, List.set_cons_zero, List.set_cons_succ]); with_reducible rfl)
    (ha : a.put oi.dst undef = a' := by (try simp only [Act.put, List.setIfInBounds_toArray, List.set_cons_zero, List.set_cons_succ]); with_reducible rfl)
    (hQ : ∀ c a w, Q (.panic c) (a.put oi.dst undef) w → Q (.panic c) a w := by exact fun _ _ _ h => h) : wpAnyH P md ops Q S (fuel + 1) listed a w := by
  subst hL
  subst ha
  exact wpAnyH_take hi hs hf hr hQ (Or.inr ⟨hw, rfl⟩) hS h
/-- A slice that lies behind the window's block stays as it was. -/
theorem Row.beside {k : IntKind} {w w' : World} {g : Nat} {A : Option Addr} {n : Nat} {xs : List Int} (h : Row k w w.heap.size A n xs) (hne : ∀ ad, A = some ad → g < ad.block) (hw : w.grownBy w' (some g)) (hs : w.heap.size ≤ w'.heap.size) : Row k w' w'.heap.size A n xs := by
  refine ⟨h.1, h.2.1, fun ad e j hj => ?_⟩
  obtain ⟨h1, h2⟩ := h.2.2 ad e j hj
  have h3 := hne ad e
  refine ⟨by omega, ?_⟩
  rw [World.cell?_of_block (w := w) (hw.block (ad.add j).block (by rw [add_block]; exact h1) (by rw [add_block]; intro e2; cases e2; omega))]
  exact h2

set_option maxRecDepth 100000 in
set_option maxHeartbeats 16000000 in
theorem windowPlays_walk (A : Option Addr) (n c : Nat) (dr : Nat → Bool) (X : Nat → Option Addr) (sm sc : Nat → Nat) (xs : Nat → List Int) (cn : Nat → Int) (w : World) (h : OpsIn w w.heap.size A n dr X sm sc xs cn) :
    Calls Try.prog 4 #[.slice A n c] w fun e w' => e = .returned (.bool true) ∧ Below w.heap.size w w' := by
  have HF := hid (l_few A n c w.heap.size dr X sm sc xs cn w h)
  have HK := hid fun w => l_knows w
  by_cases hfew : fewB n sm = true
  case neg =>
    have hf0 : fewB n sm = false := by simpa using hfew
    rw [hf0] at HF
    clear hfew hf0 h
    go_enter Try.func4, Try.ntmps4
    go_wp2_with fail
    refine (HF.out).mono ?_
    rintro e w' ⟨rfl, rfl⟩
    go_wp2_with fail
    refine (HK.out _).mono ?_
    rintro e w1 ⟨rfl, b1⟩
    go_wp2
    go_ret
    exact ⟨rfl, b1⟩
  rw [hfew] at HF
  have hn60 : n ≤ 60 := by
    unfold fewB at hfew
    rw [decide_eq_true_eq] at hfew
    exact hfew.1
  clear hfew
  go_enter Try.func4, Try.ntmps4
  go_wp2_with fail
  refine (HF.out).mono ?_
  rintro e w' ⟨rfl, rfl⟩
  go_wp2_with fail
  refine (HK.out _).mono ?_
  rintro e w1 ⟨rfl, b1⟩
  go_wp2_with fail
  refine (q_New w1).mono ?_
  rintro e w2 ⟨g, rfl, hg0, hq0, hb2⟩
  have b2 : Below w.heap.size w w2 := b1.trans (hb2.mono b1.size)
  have hgw : w.heap.size ≤ g := Nat.le_trans b1.size hg0
  clear hb2 b1 hg0
  go_wp2_with fail
  go_loopw [4, 5] (fun q i wr => ∃ (j : Nat) (Q : Option Addr) (cq : Nat) (qs : List Int), j ≤ n ∧ i = .int .i64 j ∧ q = .slice Q qs.length cq ∧ Row .u8 wr wr.heap.size Q qs.length qs ∧ qs.length ≤ cq ∧ (Q = none → cq = 0) ∧ (∀ ad, Q = some ad → g < ad.block) ∧ Que wr g qs ∧ Below w.heap.size w wr) (fun _ i _ => n - (intOf i).toNat)
  case atStart => exact ⟨0, none, 0, [], by omega, rfl, rfl, Row.none_, Nat.le_refl _, fun _ => rfl, fun ad e => (by cases e), hq0, b2⟩
  case round =>
    obtain ⟨j, Q, cq, qs, hj, rfl, rfl, hr, hcq, hnil, hne, hq, hb⟩ := hrel
    by_cases hlt : j < n
    · have hlt' : (j : Int) < (n : Int) := by omega
      have j0 : (0 : Int) ≤ (j : Int) := by omega
      have ej : IntKind.i64.wrap ((j : Int) + 1) = ((j + 1 : Nat) : Int) := (IntWalk.i64_in _ (by omega)).trans (by omega)
      have mj : n - (j + 1) < n - j := by omega
      have hqlen := hq.len
      cases hd : dr j
      · have hI := h.below hb
        obtain ⟨ad, rfl, hab, c0, c1, c2, hrx, hsc, hml, hcn1, hcn2⟩ := hI.at_ hlt
        rw [hd] at c0
        have HC := hid (h.below hb)
        clear hcn1 hcn2
        generalize hX : X j = XA at *
        generalize hX2 : sm j = m at *
        generalize hX3 : sc j = mc at *
        generalize hX4 : xs j = ys at *
        go_wp2_with fail
        refine (q_Put g qs XA m mc ys w.heap.size wr hq hsc hml (fun w' hw' => hrx.aside hgw hq.lt hw')).mono ?_
        rintro e w3 ⟨rfl, hg3, hq3⟩
        have b3 : Below w.heap.size w w3 := hb.grown hg3 hb.size (by intro k hk; cases hk; exact hgw)
        have hr3 : Row .u8 w3 w3.heap.size Q qs.length qs := hr.beside hne hg3 (World.grownBy.size hg3)
        have hI3 := h.below b3
        obtain ⟨ad', he', hab', d0, d1, d2, hrx', _⟩ := hI3.at_ hlt
        cases he'
        rw [hX, hX2, hX3] at d1
        rw [hX, hX2, hX4] at hrx'
        clear c0 c1 c2 d0 d2 hg3 hr hq hI hI3 hrx
        go_wp2_with fail
        refine (r_Put Q XA qs.length cq m mc qs ys w3 hr3 (hrx'.more b3.size) hqlen hsc hml).mono ?_
        rintro e w4 ⟨A4, c4, rfl, hr4, hc4, ⟨hn4, hf4⟩, bb4⟩
        have hlq : qs.length + min m (1024 - qs.length) = (qs ++ ys.take (min m (1024 - qs.length))).length := by have := hrx'.1; simp [this] <;> omega
        rw [hlq] at hr4 hc4 ⊢
        generalize qs ++ ys.take (min m (1024 - qs.length)) = q' at *
        generalize min m (1024 - qs.length) = K at *
        have hq4 : Que w4 g q' := hq3.below bb4 hq3.lt
        have b4 : Below w.heap.size w w4 := b3.trans (bb4.mono b3.size)
        have hne4 : ∀ ad, A4 = some ad → g < ad.block := fun ad e => Nat.lt_of_lt_of_le hq3.lt (hf4 ad e)
        clear hq3 hr3 b3 bb4 hf4 hlq hne hnil hcq hqlen d1 hX hX2 hX3 hX4 hrx' hsc hml
        have HR := hid hr4
        obtain ⟨L, hL⟩ : ∃ L, q'.length = L := ⟨_, rfl⟩
        have hL4 : L ≤ 1024 := by rw [← hL]; exact hq4.len
        have HFi := q_First g q' w4 hq4
        obtain ⟨x, hx⟩ : ∃ x, q'[0]?.getD 0 = x := ⟨_, rfl⟩
        rw [hL] at hr4 hc4 HR HFi ⊢
        rw [hx] at HFi
        have u1 : IntKind.i64.wrap (1024 - (L : Int)) = 1024 - (L : Int) := IntWalk.i64_in _ (by omega)
        go_wp2_with fail
        rcases Nat.eq_zero_or_pos L with hL0 | hL0
        · have hx0 : x = 0 := by rw [← hx, List.eq_nil_of_length_eq_zero (hL.trans hL0)]; rfl
          subst hx0
          have HL0 := hid hL0
          rw [show decide (0 < L) = false by simp [hL0]] at HFi
          have e0 : decide ((0 : Int) < (L : Int)) = false := by simp [hL0]
          have e1 : ¬ (0 < L) := by omega
          clear hL0
          refine (HFi).mono ?_
          clear HFi
          rintro e w5 ⟨rfl, bb5⟩
          have b5 : Below w.heap.size w w5 := b4.trans (bb5.mono b4.size)
          have hq5 : Que w5 g q' := hq4.below bb5 hq4.lt
          have hr5 : Row .u8 w5 w5.heap.size A4 L q' := (HR.out.below bb5).more bb5.size
          clear HR hr4 hq4 b4 bb5
          have HR5 := hid hr5
          clear hr5
          go_wp2_with fail
          refine wp_region_noPanic ?_
          refine wp_region_held_drew (S := (fun w' : World => (convert 27 9 (.slice A4 L c4)).run Try.prog w' = .ok (.string (strOfNums q')) w')) (by kernel_rfl) (run_str (HR5.out.drew) 27 9 5 c4 Try.underlying27 Try.underlying5 Try.underlying9) (fun hHeld => ?_)
          refine (show wpAnyH _ _ _ _ _ 51 _ _ _ from ?_)
          try (simp only [Act.put, List.setIfInBounds_toArray, List.set_cons_zero, List.set_cons_succ])
          have hq6 := hq5.drew
          have b6 := b5.drew
          have HR6 : Hid (Row .u8 w5.drew w5.drew.heap.size A4 L q') := HR5
          clear hq5 b5 HR5
          generalize w5.drew = w6 at *
          refine tk 0 hHeld ?_
          refine tk 1 hHeld ?_
          refine tk 2 hHeld ?_
          refine tk 3 hHeld ?_
          refine tk 4 hHeld ?_
          refine tk 6 hHeld ?_
          refine tk 7 hHeld ?_
          refine rd1 5 (fun KK hKK => ?_)
          go_simp
          have HQ := q_Len g q' w6 hq6
          rw [hL] at HQ
          refine (HQ).mono ?_
          clear HQ
          rintro e w' ⟨rfl, rfl⟩
          try go_wp2_with fail
          refine hKK.out _ _ (run_str (HR6.out) 27 9 5 c4 Try.underlying27 Try.underlying5 Try.underlying9) (fun hHeld => ?_)
          clear hKK KK
          try (simp only [Act.put, List.setIfInBounds_toArray, List.set_cons_zero, List.set_cons_succ])
          refine tk 8 hHeld ?_
          refine tk 9 hHeld ?_
          refine tk 10 hHeld ?_
          refine tk 11 hHeld ?_
          refine tk 13 hHeld ?_
          refine tk 14 hHeld ?_
          refine tk 15 hHeld ?_
          refine rd1 12 (fun KK hKK => ?_)
          go_simp
          have HQ := q_Room g q' w6 hq6
          rw [hL] at HQ
          refine (HQ).mono ?_
          clear HQ
          rintro e w' ⟨rfl, rfl⟩
          try go_wp2_with fail
          refine hKK.out _ _ (run_str (HR6.out) 27 9 5 c4 Try.underlying27 Try.underlying5 Try.underlying9) (fun hHeld => ?_)
          clear hKK KK
          try (simp only [Act.put, List.setIfInBounds_toArray, List.set_cons_zero, List.set_cons_succ])
          refine tk 16 hHeld ?_
          refine tk 17 hHeld ?_
          refine tk 18 hHeld ?_
          refine tk 19 hHeld ?_
          refine tk 22 hHeld ?_
          refine tk 23 hHeld ?_
          refine rd1 20 (fun KK hKK => ?_)
          go_simp
          have HQ := q_Peek g q' w6 hq6
          refine (HQ).mono ?_
          clear HQ
          rintro e w7 ⟨rfl, bb7, hbk7⟩
          try go_wp2_with fail
          have b7 : Below w.heap.size w w7 := b6.trans (bb7.mono b6.size)
          have hr7 := (HR6.out.below bb7).more bb7.size
          have hq7 := hq6.below bb7 hq6.lt
          refine hKK.out _ _ (run_str (hr7) 27 9 5 c4 Try.underlying27 Try.underlying5 Try.underlying9) (fun hHeld => ?_)
          clear hKK KK
          try (simp only [Act.put, List.setIfInBounds_toArray, List.set_cons_zero, List.set_cons_succ])
          have hbr : Row .u8 w7 w7.heap.size (some ⟨w6.heap.size, 0, none⟩) q'.length q' := hbk7.row hbk7.lt
          rw [hL] at hbr
          refine wpAnyH_more (fun w' : World => (convert 27 9 (.slice (some ⟨w6.heap.size, 0, none⟩) L L)).run Try.prog w' = .ok (.string (strOfNums q')) w') (run_str (hbr) 27 9 5 L Try.underlying27 Try.underlying5 Try.underlying9) hHeld (fun hHeld => ?_)
          refine tk 21 hHeld ?_
          refine tk 24 hHeld ?_
          refine tk 25 hHeld ?_
          refine tk 26 hHeld ?_
          refine tk 27 hHeld ?_
          refine tk 28 hHeld ?_
          refine tk 29 hHeld ?_
          refine tk 30 hHeld ?_
          refine tk 31 hHeld ?_
          refine tk 32 hHeld ?_
          refine tk 33 hHeld ?_
          refine tk 34 hHeld ?_
          refine tk 35 hHeld ?_
          refine tku 36 hHeld ?_
          refine tku 37 hHeld ?_
          refine tku 38 hHeld ?_
          refine tku 39 hHeld ?_
          refine tku 40 hHeld ?_
          refine tk 41 hHeld ?_
          refine tk 42 hHeld ?_
          refine tk 43 hHeld ?_
          refine tk 44 hHeld ?_
          refine tk 45 hHeld ?_
          refine tk 46 hHeld ?_
          refine tk 47 hHeld ?_
          refine tk 48 hHeld ?_
          refine tk 49 hHeld ?_
          refine tk 50 hHeld ?_
          refine wpAnyH_done ?hr1 ?hq1 _
          case hr1 => kernel_rfl
          refine NoPanic.normal ?_
          clear hHeld
          go_wp2
          go_roundw
          case rel => exact ⟨j + 1, A4, c4, q', by omega, rfl, by rw [hL], by rw [hL]; exact hr7, by rw [hL]; exact hc4, hn4, hne4, hq7, b7⟩
          case measure => simpa [intOf] using mj
        · rw [show decide (0 < L) = true by simp [hL0]] at HFi
          have e0 : decide ((0 : Int) < (L : Int)) = true := by simp; omega
          have e1 : (0 : Int) < (L : Int) := by omega
          refine (HFi).mono ?_
          clear HFi
          rintro e w5 ⟨rfl, bb5⟩
          have b5 : Below w.heap.size w w5 := b4.trans (bb5.mono b4.size)
          have hq5 : Que w5 g q' := hq4.below bb5 hq4.lt
          have hr5 : Row .u8 w5 w5.heap.size A4 L q' := (HR.out.below bb5).more bb5.size
          clear HR hr4 hq4 b4 bb5
          obtain ⟨aq, rfl, haq, cq0⟩ := hr5.at_ hL0
          rw [hx, show aq.add 0 = aq from rfl] at cq0
          have Hcq := hid cq0
          clear cq0
          have HR5 := hid hr5
          clear hr5
          go_wp2_with fail
          refine wp_region_noPanic ?_
          refine wp_region_held_drew (S := (fun w' : World => (convert 27 9 (.slice (some aq) L c4)).run Try.prog w' = .ok (.string (strOfNums q')) w' ∧ w'.cell? aq = some (.int .u8 x))) (by kernel_rfl) ⟨(run_str (HR5.out.drew) 27 9 5 c4 Try.underlying27 Try.underlying5 Try.underlying9), Hcq.out⟩ (fun hHeld => ?_)
          refine (show wpAnyH _ _ _ _ _ 51 _ _ _ from ?_)
          try (simp only [Act.put, List.setIfInBounds_toArray, List.set_cons_zero, List.set_cons_succ])
          have hq6 := hq5.drew
          have b6 := b5.drew
          have HR6 : Hid (Row .u8 w5.drew w5.drew.heap.size (some aq) L q') := HR5
          have Hc6 : Hid (w5.drew.cell? aq = some (.int .u8 x)) := Hcq
          clear hq5 b5 HR5 Hcq
          generalize w5.drew = w6 at *
          have haq' : aq.block < w6.heap.size := (HR6.out.2.2 aq rfl 0 hL0).1
          refine tk 0 hHeld ?_
          refine tk 1 hHeld ?_
          refine tk 2 hHeld ?_
          refine tk 3 hHeld ?_
          refine tk 4 hHeld ?_
          refine tk 6 hHeld ?_
          refine tk 7 hHeld ?_
          refine rd1 5 (fun KK hKK => ?_)
          go_simp
          have HQ := q_Len g q' w6 hq6
          rw [hL] at HQ
          refine (HQ).mono ?_
          clear HQ
          rintro e w' ⟨rfl, rfl⟩
          try go_wp2_with fail
          refine hKK.out _ _ ⟨(run_str (HR6.out) 27 9 5 c4 Try.underlying27 Try.underlying5 Try.underlying9), Hc6.out⟩ (fun hHeld => ?_)
          clear hKK KK
          try (simp only [Act.put, List.setIfInBounds_toArray, List.set_cons_zero, List.set_cons_succ])
          refine tk 8 hHeld ?_
          refine tk 9 hHeld ?_
          refine tk 10 hHeld ?_
          refine tk 11 hHeld ?_
          refine tk 13 hHeld ?_
          refine tk 14 hHeld ?_
          refine tk 15 hHeld ?_
          refine rd1 12 (fun KK hKK => ?_)
          go_simp
          have HQ := q_Room g q' w6 hq6
          rw [hL] at HQ
          refine (HQ).mono ?_
          clear HQ
          rintro e w' ⟨rfl, rfl⟩
          try go_wp2_with fail
          refine hKK.out _ _ ⟨(run_str (HR6.out) 27 9 5 c4 Try.underlying27 Try.underlying5 Try.underlying9), Hc6.out⟩ (fun hHeld => ?_)
          clear hKK KK
          try (simp only [Act.put, List.setIfInBounds_toArray, List.set_cons_zero, List.set_cons_succ])
          refine tk 16 hHeld ?_
          refine tk 17 hHeld ?_
          refine tk 18 hHeld ?_
          refine tk 19 hHeld ?_
          refine tk 22 hHeld ?_
          refine tk 23 hHeld ?_
          refine rd1 20 (fun KK hKK => ?_)
          go_simp
          have HQ := q_Peek g q' w6 hq6
          refine (HQ).mono ?_
          clear HQ
          rintro e w7 ⟨rfl, bb7, hbk7⟩
          try go_wp2_with fail
          have b7 : Below w.heap.size w w7 := b6.trans (bb7.mono b6.size)
          have hr7 := (HR6.out.below bb7).more bb7.size
          have hq7 := hq6.below bb7 hq6.lt
          have hc7 := (bb7.cell haq').trans Hc6.out
          refine hKK.out _ _ ⟨(run_str (hr7) 27 9 5 c4 Try.underlying27 Try.underlying5 Try.underlying9), hc7⟩ (fun hHeld => ?_)
          clear hKK KK
          try (simp only [Act.put, List.setIfInBounds_toArray, List.set_cons_zero, List.set_cons_succ])
          have hbr : Row .u8 w7 w7.heap.size (some ⟨w6.heap.size, 0, none⟩) q'.length q' := hbk7.row hbk7.lt
          rw [hL] at hbr
          refine wpAnyH_more (fun w' : World => (convert 27 9 (.slice (some ⟨w6.heap.size, 0, none⟩) L L)).run Try.prog w' = .ok (.string (strOfNums q')) w') (run_str (hbr) 27 9 5 L Try.underlying27 Try.underlying5 Try.underlying9) hHeld (fun hHeld => ?_)
          refine tk 21 hHeld ?_
          refine tk 24 hHeld ?_
          refine tk 25 hHeld ?_
          refine tk 26 hHeld ?_
          refine tk 27 hHeld ?_
          refine tk 28 hHeld ?_
          refine tk 29 hHeld ?_
          refine tk 30 hHeld ?_
          refine tk 31 hHeld ?_
          refine tk 32 hHeld ?_
          refine tk 33 hHeld ?_
          refine tk 34 hHeld ?_
          refine tk 35 hHeld ?_
          refine tk 36 hHeld ?_
          refine tk 37 hHeld ?_
          refine tk 38 hHeld ?_
          refine tk 39 hHeld ?_
          refine tk 40 hHeld ?_
          refine tk 41 hHeld ?_
          refine tk 42 hHeld ?_
          refine tk 43 hHeld ?_
          refine tk 44 hHeld ?_
          refine tk 45 hHeld ?_
          refine tk 46 hHeld ?_
          refine tku 47 hHeld ?_
          refine tku 48 hHeld ?_
          refine tk 49 hHeld ?_
          refine tk 50 hHeld ?_
          refine wpAnyH_done ?hr2 ?hq2 _
          case hr2 => kernel_rfl
          refine NoPanic.normal ?_
          clear hHeld
          go_wp2
          go_roundw
          case rel => exact ⟨j + 1, (some aq), c4, q', by omega, rfl, by rw [hL], by rw [hL]; exact hr7, by rw [hL]; exact hc4, hn4, hne4, hq7, b7⟩
          case measure => simpa [intOf] using mj
      · have hI := h.below hb
        obtain ⟨ad, rfl, hab, c0, c1, c2, hrx, hsc, hml, hcn1, hcn2⟩ := hI.at_ hlt
        rw [hd] at c0
        have HC := hid (h.below hb)
        clear hrx hsc hml
        generalize hX : cn j = k at *
        go_wp2_with fail
        refine (q_Drop g qs k wr hq).mono ?_
        rintro e w3 ⟨rfl, hg3, hq3⟩
        have b3 : Below w.heap.size w w3 := hb.grown hg3 hb.size (by intro k hk; cases hk; exact hgw)
        have hr3 : Row .u8 w3 w3.heap.size Q qs.length qs := hr.beside hne hg3 (World.grownBy.size hg3)
        have hI3 := h.below b3
        obtain ⟨ad', he', hab', d0, d1, d2, hrx', _⟩ := hI3.at_ hlt
        cases he'
        rw [hX] at d2
        clear c0 c1 c2 d0 d1 hrx' hg3 hr hq hI hI3
        go_wp2_with fail
        refine (r_Drop qs.length k Q cq qs w3 hr3 hqlen hcq hnil).mono ?_
        rintro e w4 ⟨A4, c4, rfl, hr4, hc4, ⟨hn4, hf4⟩, bb4⟩
        have hlq : qs.length - min k.toNat qs.length = (qs.drop (min k.toNat qs.length)).length := by simp
        rw [hlq] at hr4 hc4 ⊢
        generalize qs.drop (min k.toNat qs.length) = q' at *
        generalize min k.toNat qs.length = K at *
        have hq4 : Que w4 g q' := hq3.below bb4 hq3.lt
        have b4 : Below w.heap.size w w4 := b3.trans (bb4.mono b3.size)
        have hne4 : ∀ ad, A4 = some ad → g < ad.block := fun ad e => Nat.lt_of_lt_of_le hq3.lt (hf4 ad e)
        clear hq3 hr3 b3 bb4 hf4 hlq hne hnil hcq hqlen d2 hX hcn1 hcn2
        have HR := hid hr4
        obtain ⟨L, hL⟩ : ∃ L, q'.length = L := ⟨_, rfl⟩
        have hL4 : L ≤ 1024 := by rw [← hL]; exact hq4.len
        have HFi := q_First g q' w4 hq4
        obtain ⟨x, hx⟩ : ∃ x, q'[0]?.getD 0 = x := ⟨_, rfl⟩
        rw [hL] at hr4 hc4 HR HFi ⊢
        rw [hx] at HFi
        have u1 : IntKind.i64.wrap (1024 - (L : Int)) = 1024 - (L : Int) := IntWalk.i64_in _ (by omega)
        go_wp2_with fail
        rcases Nat.eq_zero_or_pos L with hL0 | hL0
        · have hx0 : x = 0 := by rw [← hx, List.eq_nil_of_length_eq_zero (hL.trans hL0)]; rfl
          subst hx0
          have HL0 := hid hL0
          rw [show decide (0 < L) = false by simp [hL0]] at HFi
          have e0 : decide ((0 : Int) < (L : Int)) = false := by simp [hL0]
          have e1 : ¬ (0 < L) := by omega
          clear hL0
          refine (HFi).mono ?_
          clear HFi
          rintro e w5 ⟨rfl, bb5⟩
          have b5 : Below w.heap.size w w5 := b4.trans (bb5.mono b4.size)
          have hq5 : Que w5 g q' := hq4.below bb5 hq4.lt
          have hr5 : Row .u8 w5 w5.heap.size A4 L q' := (HR.out.below bb5).more bb5.size
          clear HR hr4 hq4 b4 bb5
          have HR5 := hid hr5
          clear hr5
          go_wp2_with fail
          refine wp_region_noPanic ?_
          refine wp_region_held_drew (S := (fun w' : World => (convert 27 9 (.slice A4 L c4)).run Try.prog w' = .ok (.string (strOfNums q')) w')) (by kernel_rfl) (run_str (HR5.out.drew) 27 9 5 c4 Try.underlying27 Try.underlying5 Try.underlying9) (fun hHeld => ?_)
          refine (show wpAnyH _ _ _ _ _ 51 _ _ _ from ?_)
          try (simp only [Act.put, List.setIfInBounds_toArray, List.set_cons_zero, List.set_cons_succ])
          have hq6 := hq5.drew
          have b6 := b5.drew
          have HR6 : Hid (Row .u8 w5.drew w5.drew.heap.size A4 L q') := HR5
          clear hq5 b5 HR5
          generalize w5.drew = w6 at *
          refine tk 0 hHeld ?_
          refine tk 1 hHeld ?_
          refine tk 2 hHeld ?_
          refine tk 3 hHeld ?_
          refine tk 4 hHeld ?_
          refine tk 6 hHeld ?_
          refine tk 7 hHeld ?_
          refine rd1 5 (fun KK hKK => ?_)
          go_simp
          have HQ := q_Len g q' w6 hq6
          rw [hL] at HQ
          refine (HQ).mono ?_
          clear HQ
          rintro e w' ⟨rfl, rfl⟩
          try go_wp2_with fail
          refine hKK.out _ _ (run_str (HR6.out) 27 9 5 c4 Try.underlying27 Try.underlying5 Try.underlying9) (fun hHeld => ?_)
          clear hKK KK
          try (simp only [Act.put, List.setIfInBounds_toArray, List.set_cons_zero, List.set_cons_succ])
          refine tk 8 hHeld ?_
          refine tk 9 hHeld ?_
          refine tk 10 hHeld ?_
          refine tk 11 hHeld ?_
          refine tk 13 hHeld ?_
          refine tk 14 hHeld ?_
          refine tk 15 hHeld ?_
          refine rd1 12 (fun KK hKK => ?_)
          go_simp
          have HQ := q_Room g q' w6 hq6
          rw [hL] at HQ
          refine (HQ).mono ?_
          clear HQ
          rintro e w' ⟨rfl, rfl⟩
          try go_wp2_with fail
          refine hKK.out _ _ (run_str (HR6.out) 27 9 5 c4 Try.underlying27 Try.underlying5 Try.underlying9) (fun hHeld => ?_)
          clear hKK KK
          try (simp only [Act.put, List.setIfInBounds_toArray, List.set_cons_zero, List.set_cons_succ])
          refine tk 16 hHeld ?_
          refine tk 17 hHeld ?_
          refine tk 18 hHeld ?_
          refine tk 19 hHeld ?_
          refine tk 22 hHeld ?_
          refine tk 23 hHeld ?_
          refine rd1 20 (fun KK hKK => ?_)
          go_simp
          have HQ := q_Peek g q' w6 hq6
          refine (HQ).mono ?_
          clear HQ
          rintro e w7 ⟨rfl, bb7, hbk7⟩
          try go_wp2_with fail
          have b7 : Below w.heap.size w w7 := b6.trans (bb7.mono b6.size)
          have hr7 := (HR6.out.below bb7).more bb7.size
          have hq7 := hq6.below bb7 hq6.lt
          refine hKK.out _ _ (run_str (hr7) 27 9 5 c4 Try.underlying27 Try.underlying5 Try.underlying9) (fun hHeld => ?_)
          clear hKK KK
          try (simp only [Act.put, List.setIfInBounds_toArray, List.set_cons_zero, List.set_cons_succ])
          have hbr : Row .u8 w7 w7.heap.size (some ⟨w6.heap.size, 0, none⟩) q'.length q' := hbk7.row hbk7.lt
          rw [hL] at hbr
          refine wpAnyH_more (fun w' : World => (convert 27 9 (.slice (some ⟨w6.heap.size, 0, none⟩) L L)).run Try.prog w' = .ok (.string (strOfNums q')) w') (run_str (hbr) 27 9 5 L Try.underlying27 Try.underlying5 Try.underlying9) hHeld (fun hHeld => ?_)
          refine tk 21 hHeld ?_
          refine tk 24 hHeld ?_
          refine tk 25 hHeld ?_
          refine tk 26 hHeld ?_
          refine tk 27 hHeld ?_
          refine tk 28 hHeld ?_
          refine tk 29 hHeld ?_
          refine tk 30 hHeld ?_
          refine tk 31 hHeld ?_
          refine tk 32 hHeld ?_
          refine tk 33 hHeld ?_
          refine tk 34 hHeld ?_
          refine tk 35 hHeld ?_
          refine tku 36 hHeld ?_
          refine tku 37 hHeld ?_
          refine tku 38 hHeld ?_
          refine tku 39 hHeld ?_
          refine tku 40 hHeld ?_
          refine tk 41 hHeld ?_
          refine tk 42 hHeld ?_
          refine tk 43 hHeld ?_
          refine tk 44 hHeld ?_
          refine tk 45 hHeld ?_
          refine tk 46 hHeld ?_
          refine tk 47 hHeld ?_
          refine tk 48 hHeld ?_
          refine tk 49 hHeld ?_
          refine tk 50 hHeld ?_
          refine wpAnyH_done ?hr3 ?hq3 _
          case hr3 => kernel_rfl
          refine NoPanic.normal ?_
          clear hHeld
          go_wp2
          go_roundw
          case rel => exact ⟨j + 1, A4, c4, q', by omega, rfl, by rw [hL], by rw [hL]; exact hr7, by rw [hL]; exact hc4, hn4, hne4, hq7, b7⟩
          case measure => simpa [intOf] using mj
        · rw [show decide (0 < L) = true by simp [hL0]] at HFi
          have e0 : decide ((0 : Int) < (L : Int)) = true := by simp; omega
          have e1 : (0 : Int) < (L : Int) := by omega
          refine (HFi).mono ?_
          clear HFi
          rintro e w5 ⟨rfl, bb5⟩
          have b5 : Below w.heap.size w w5 := b4.trans (bb5.mono b4.size)
          have hq5 : Que w5 g q' := hq4.below bb5 hq4.lt
          have hr5 : Row .u8 w5 w5.heap.size A4 L q' := (HR.out.below bb5).more bb5.size
          clear HR hr4 hq4 b4 bb5
          obtain ⟨aq, rfl, haq, cq0⟩ := hr5.at_ hL0
          rw [hx, show aq.add 0 = aq from rfl] at cq0
          have Hcq := hid cq0
          clear cq0
          have HR5 := hid hr5
          clear hr5
          go_wp2_with fail
          refine wp_region_noPanic ?_
          refine wp_region_held_drew (S := (fun w' : World => (convert 27 9 (.slice (some aq) L c4)).run Try.prog w' = .ok (.string (strOfNums q')) w' ∧ w'.cell? aq = some (.int .u8 x))) (by kernel_rfl) ⟨(run_str (HR5.out.drew) 27 9 5 c4 Try.underlying27 Try.underlying5 Try.underlying9), Hcq.out⟩ (fun hHeld => ?_)
          refine (show wpAnyH _ _ _ _ _ 51 _ _ _ from ?_)
          try (simp only [Act.put, List.setIfInBounds_toArray, List.set_cons_zero, List.set_cons_succ])
          have hq6 := hq5.drew
          have b6 := b5.drew
          have HR6 : Hid (Row .u8 w5.drew w5.drew.heap.size (some aq) L q') := HR5
          have Hc6 : Hid (w5.drew.cell? aq = some (.int .u8 x)) := Hcq
          clear hq5 b5 HR5 Hcq
          generalize w5.drew = w6 at *
          have haq' : aq.block < w6.heap.size := (HR6.out.2.2 aq rfl 0 hL0).1
          refine tk 0 hHeld ?_
          refine tk 1 hHeld ?_
          refine tk 2 hHeld ?_
          refine tk 3 hHeld ?_
          refine tk 4 hHeld ?_
          refine tk 6 hHeld ?_
          refine tk 7 hHeld ?_
          refine rd1 5 (fun KK hKK => ?_)
          go_simp
          have HQ := q_Len g q' w6 hq6
          rw [hL] at HQ
          refine (HQ).mono ?_
          clear HQ
          rintro e w' ⟨rfl, rfl⟩
          try go_wp2_with fail
          refine hKK.out _ _ ⟨(run_str (HR6.out) 27 9 5 c4 Try.underlying27 Try.underlying5 Try.underlying9), Hc6.out⟩ (fun hHeld => ?_)
          clear hKK KK
          try (simp only [Act.put, List.setIfInBounds_toArray, List.set_cons_zero, List.set_cons_succ])
          refine tk 8 hHeld ?_
          refine tk 9 hHeld ?_
          refine tk 10 hHeld ?_
          refine tk 11 hHeld ?_
          refine tk 13 hHeld ?_
          refine tk 14 hHeld ?_
          refine tk 15 hHeld ?_
          refine rd1 12 (fun KK hKK => ?_)
          go_simp
          have HQ := q_Room g q' w6 hq6
          rw [hL] at HQ
          refine (HQ).mono ?_
          clear HQ
          rintro e w' ⟨rfl, rfl⟩
          try go_wp2_with fail
          refine hKK.out _ _ ⟨(run_str (HR6.out) 27 9 5 c4 Try.underlying27 Try.underlying5 Try.underlying9), Hc6.out⟩ (fun hHeld => ?_)
          clear hKK KK
          try (simp only [Act.put, List.setIfInBounds_toArray, List.set_cons_zero, List.set_cons_succ])
          refine tk 16 hHeld ?_
          refine tk 17 hHeld ?_
          refine tk 18 hHeld ?_
          refine tk 19 hHeld ?_
          refine tk 22 hHeld ?_
          refine tk 23 hHeld ?_
          refine rd1 20 (fun KK hKK => ?_)
          go_simp
          have HQ := q_Peek g q' w6 hq6
          refine (HQ).mono ?_
          clear HQ
          rintro e w7 ⟨rfl, bb7, hbk7⟩
          try go_wp2_with fail
          have b7 : Below w.heap.size w w7 := b6.trans (bb7.mono b6.size)
          have hr7 := (HR6.out.below bb7).more bb7.size
          have hq7 := hq6.below bb7 hq6.lt
          have hc7 := (bb7.cell haq').trans Hc6.out
          refine hKK.out _ _ ⟨(run_str (hr7) 27 9 5 c4 Try.underlying27 Try.underlying5 Try.underlying9), hc7⟩ (fun hHeld => ?_)
          clear hKK KK
          try (simp only [Act.put, List.setIfInBounds_toArray, List.set_cons_zero, List.set_cons_succ])
          have hbr : Row .u8 w7 w7.heap.size (some ⟨w6.heap.size, 0, none⟩) q'.length q' := hbk7.row hbk7.lt
          rw [hL] at hbr
          refine wpAnyH_more (fun w' : World => (convert 27 9 (.slice (some ⟨w6.heap.size, 0, none⟩) L L)).run Try.prog w' = .ok (.string (strOfNums q')) w') (run_str (hbr) 27 9 5 L Try.underlying27 Try.underlying5 Try.underlying9) hHeld (fun hHeld => ?_)
          refine tk 21 hHeld ?_
          refine tk 24 hHeld ?_
          refine tk 25 hHeld ?_
          refine tk 26 hHeld ?_
          refine tk 27 hHeld ?_
          refine tk 28 hHeld ?_
          refine tk 29 hHeld ?_
          refine tk 30 hHeld ?_
          refine tk 31 hHeld ?_
          refine tk 32 hHeld ?_
          refine tk 33 hHeld ?_
          refine tk 34 hHeld ?_
          refine tk 35 hHeld ?_
          refine tk 36 hHeld ?_
          refine tk 37 hHeld ?_
          refine tk 38 hHeld ?_
          refine tk 39 hHeld ?_
          refine tk 40 hHeld ?_
          refine tk 41 hHeld ?_
          refine tk 42 hHeld ?_
          refine tk 43 hHeld ?_
          refine tk 44 hHeld ?_
          refine tk 45 hHeld ?_
          refine tk 46 hHeld ?_
          refine tku 47 hHeld ?_
          refine tku 48 hHeld ?_
          refine tk 49 hHeld ?_
          refine tk 50 hHeld ?_
          refine wpAnyH_done ?hr4 ?hq4 _
          case hr4 => kernel_rfl
          refine NoPanic.normal ?_
          clear hHeld
          go_wp2
          go_roundw
          case rel => exact ⟨j + 1, (some aq), c4, q', by omega, rfl, by rw [hL], by rw [hL]; exact hr7, by rw [hL]; exact hc4, hn4, hne4, hq7, b7⟩
          case measure => simpa [intOf] using mj
    · obtain rfl : j = n := by omega
      clear h
      go_wp2
      go_ret
      exact ⟨rfl, hb⟩
end Go.Proofs.Ytbhfidneijogfaa
