/- Chapter 44: time goes by. -/
import Derived.Test.YtldoocndhfgjhaaGreatNodeI
namespace Go.Proofs.YtldoocndhfgjhaaGreat
open Go.RowKit
set_option linter.unusedVariables false
set_option linter.unusedSimpArgs false

/-- What a step of time leaves. -/
def Ticked (nb db wa q mb g cap tA tB i0 : Nat) (now : Int) (H A B : Value) (w : World) (e : Ending) (w' : World) : Prop :=
  e = .returned (.tuple #[]) ∧ ∃ (n c base : Nat) (O : Option Addr) (s : Int) (evs : List (List Value)), w.heap.size ≤ base ∧ i0 + n = cntP now ∧ NSt w' nb db wa q mb g cap tA tB base i0 n c O s now H A B evs (i0 + n) ∧ Kept (PD nb g tA tB) w w'
/-- A step of time, between two events. -/
def TickR (nb db wa q mb g cap tA tB i0 base : Nat) (now : Int) (H A B : Value) (w : World) (id at_ ok : Value) (wr : World) : Prop :=
  ∃ (n c : Nat) (O : Option Addr) (s : Int) (evs : List (List Value)) (okb : Bool) (idi ati : Int) (k' : Nat), ok = .bool okb ∧ id = .int .i64 idi ∧ at_ = .int .i64 ati ∧ Pend (i0 + n) now okb idi ati k' ∧ i0 + n ≤ cntP now ∧ NSt wr nb db wa q mb g cap tA tB base i0 n c O s now H A B evs k' ∧ Kept (PD nb g tA tB) w wr
def muT (nb : Nat) (wr : World) : Nat := 5000 - (intOf ((wr.cell? ⟨nb, 2, none⟩).getD undef)).toNat
theorem muT_is (nb : Nat) (s : Int) (wr : World) (h : wr.cell? ⟨nb, 2, none⟩ = some (.int .i64 s)) : muT nb wr = 5000 - s.toNat := by
  unfold muT
  rw [h]
  rfl
theorem cnt_bd (now : Int) (h : now ≤ 300000) : cntP now ≤ 3300 := by unfold cntP; omega
theorem due_le (k : Nat) (now : Int) (h : dueE k ≤ now) (h2 : now ≤ 300000) : dueE k ≤ 1000000 := by omega
set_option maxRecDepth 100000 in
set_option maxHeartbeats 8000000 in
theorem n_tick (hW : Word0) (nb db wa q mb g cap tA tB i0 : Nat) (s now0 dt now : Int) (H A B : Value) (w : World) (hs : s = ((i0 : Nat) : Int)) (hi0 : i0 = cntP now0) (hnow : now0 + dt = now) (h0 : 0 ≤ now0) (hdt : 0 ≤ dt ∧ dt ≤ 10000) (hmax : now ≤ 300000) (hN : Blk w nb 106 (.int .i64 1 :: .int .i64 1 :: .int .i64 s :: .slice none 0 0 :: ndR now0 db q H A B).toArray) (hD : Blk w db 125 (decC wa)) (hT : Tms w q mb g cap tA tB (dueB i0) (dueW i0)) :
    Calls Tryz.prog 32 #[.pointer (some ⟨nb, 0, none⟩), .agg #[.int .i64 1, .slice none 0 0, .int .i64 dt, .int .i64 0, .slice none 0 0, .int .i64 0, .slice none 0 0]] w (Ticked nb db wa q mb g cap tA tB i0 now H A B w) := by
  have hWW := hid hW
  clear hW
  have HS := hid hs
  have HI0 := hid hi0
  have HNOW := hid hnow
  have hK := (Kept.refl (PD nb g tA tB) w).alloc (.cells #[.int .i64 1, .slice none 0 0, .int .i64 dt, .int .i64 0, .slice none 0 0, .int .i64 0, .slice none 0 0] 36)
  have hN1 := hN.alloc (.cells #[.int .i64 1, .slice none 0 0, .int .i64 dt, .int .i64 0, .slice none 0 0, .int .i64 0, .slice none 0 0] 36)
  have hD1 := hD.alloc (.cells #[.int .i64 1, .slice none 0 0, .int .i64 dt, .int .i64 0, .slice none 0 0, .int .i64 0, .slice none 0 0] 36)
  have e1 := Blk.new w 36 #[.int .i64 1, .slice none 0 0, .int .i64 dt, .int .i64 0, .slice none 0 0, .int .i64 0, .slice none 0 0]
  have hT1 := hT.keptP ((Kept.refl (fun _ => False) w).alloc (.cells #[.int .i64 1, .slice none 0 0, .int .i64 dt, .int .i64 0, .slice none 0 0, .int .i64 0, .slice none 0 0] 36)) (fun _ _ _ h => h.elim)
  have d1 : decide (dt < 0) = false := decide_eq_false (by omega)
  have d2 : decide (10000 < dt) = false := decide_eq_false (by omega)
  have u1 : IntKind.i64.wrap (1099511627776 - now0) = 1099511627776 - now0 := IntWalk.i64_in _ (by omega)
  have d3 : decide (1099511627776 - now0 < dt) = false := decide_eq_false (by omega)
  have u2 : IntKind.i64.wrap (now0 + dt) = now := (IntWalk.i64_in _ (by omega)).trans hnow
  have hm0 : cntP now0 ≤ cntP now := by unfold cntP; omega
  have HM0 := hid hm0
  have hnn : 0 ≤ now ∧ now ≤ 1000000 := by omega
  have hcb := cnt_bd now hmax
  clear hnow hs hi0 hm0
  go_enter Tryz.func32, Tryz.ntmps32
  go_upto_region 1 with fail
  generalize w.alloc (.cells #[.int .i64 1, .slice none 0 0, .int .i64 dt, .int .i64 0, .slice none 0 0, .int .i64 0, .slice none 0 0] 36) = W0 at *
  have q2 : W0.cell? ⟨w.heap.size, 2, none⟩ = some (.int .i64 dt) := e1.cell 2
  go_upto_region 3 with fail
  clear q2
  refine wp_region_held_drew (S := fun w' : World => w'.cell? ⟨w.heap.size, 2, none⟩ = some (.int .i64 dt) ∧ w'.cell? ⟨nb, 4, none⟩ = some (.int .i64 now0)) (by kernel_rfl) ⟨e1.cell 2, hN1.cell 4⟩ (fun hHeld => ?_)
  refine (show wpAnyH _ _ _ _ _ 9 _ _ _ from ?_)
  try (simp only [Act.put, List.setIfInBounds_toArray, List.set_cons_zero, List.set_cons_succ])
  replace hN1 := hN1.drew
  replace hD1 := hD1.drew
  replace hK := hK.drew
  replace e1 := e1.drew
  replace hT1 := hT1.keptP ((Kept.refl (fun _ => False) W0).drew) (fun _ _ _ h => h.elim)
  generalize W0.drew = V0 at *
  refine tk 0 hHeld ?_
  refine tk 1 hHeld ?_
  refine tk 2 hHeld ?_
  refine tk 3 hHeld ?_
  refine tk 4 hHeld ?_
  refine tk 5 hHeld ?_
  refine tk 6 hHeld ?_
  refine tk 7 hHeld ?_
  refine tk 8 hHeld ?_
  refine wpAnyH_done (by kernel_rfl) ?_ _
  clear hHeld
  go_upto_region 5 with fail
  refine late_region 9 (S := fun w' => w'.cell? ⟨w.heap.size, 2, none⟩ = some (.int .i64 dt) ∧ w'.cell? ⟨nb, 4, none⟩ = some (.int .i64 now0)) (by kernel_rfl) (fun hHeld => ?_) ⟨e1.cell 2, hN1.cell 4⟩
  refine (show wpAnyE _ _ _ _ _ _ 10 _ _ _ from ?_)
  try (simp only [Act.put, List.setIfInBounds_toArray, List.set_cons_zero, List.set_cons_succ])
  replace hN1 := hN1.drew
  replace hD1 := hD1.drew
  replace hK := hK.drew
  replace e1 := e1.drew
  replace hT1 := hT1.keptP ((Kept.refl (fun _ => False) V0).drew) (fun _ _ _ h => h.elim)
  generalize V0.drew = V1 at *
  refine tkE 0 hHeld ?_
  refine tkE 1 hHeld ?_
  refine tkE 2 hHeld ?_
  refine tkE 3 hHeld ?_
  refine tkE 4 hHeld ?_
  refine tkE 5 hHeld ?_
  refine tkE 6 hHeld ?_
  refine rdE 7 (fun KK hKK => ?_)
  go_simp
  try go_wp2_with fail
  refine hKK.out _ _ ⟨e1.cell 2, hN1.cell 4⟩ (fun hHeld => ?_)
  clear hKK KK
  try (simp only [Act.put, List.setIfInBounds_toArray, List.set_cons_zero, List.set_cons_succ])
  refine rdE 8 (fun KK hKK => ?_)
  go_simp
  try go_wp2_with fail
  refine hKK.out _ _ ⟨e1.cell 2, hN1.cell 4⟩ (fun hHeld => ?_)
  clear hKK KK
  try (simp only [Act.put, List.setIfInBounds_toArray, List.set_cons_zero, List.set_cons_succ])
  refine rdLast 9 (fun KK hKK => ?_)
  have z4 := hN1.frozen 4
  have y4 : V1.cell? ⟨nb, 4, none⟩ = some (.int .i64 now0) := hN1.cell 4
  go_simp
  try go_wp2_with fail
  clear z4 y4 e1
  have t1 := hN1.set_ 4 (.int .i64 now)
  simp only [List.setIfInBounds_toArray, List.set_cons_zero, List.set_cons_succ, ndR] at t1
  replace t1 : Blk _ nb 106 (.int .i64 1 :: .int .i64 1 :: .int .i64 s :: .slice none 0 0 :: ndR now db q H A B).toArray := t1
  have hD2 := hD1.far (p := ⟨nb, 4, none⟩) (hD1.ne_ hN1 (by decide)) (.int .i64 now)
  have hK2 := hK.set_ (p := ⟨nb, 4, none⟩) (Or.inl (Or.inl rfl)) (.int .i64 now)
  have hk1 : Kept (fun i => i = nb) V1 (V1.setCell ⟨nb, 4, none⟩ (.int .i64 now)) := (Kept.refl (fun i => i = nb) V1).set_ (p := ⟨nb, 4, none⟩) (Or.inl rfl) (.int .i64 now)
  have hT2 := hT1.keptP hk1 (fun i t cs hi hB ht => by
    subst hi
    have := hB.alone hN1
    subst this
    revert ht; decide)
  clear hN1 hD1 hK hT1 hk1
  generalize V1.setCell ⟨nb, 4, none⟩ (.int .i64 now) = w1 at *
  refine hKK.out _ _ ?_
  clear hKK KK hHeld
  refine doneE ?_ (by kernel_rfl) _
  have hst : NSt w1 nb db wa q mb g cap tA tB w1.heap.size i0 0 0 none s now H A B [] i0 := ⟨t1, hD2, hT2, OTab.nil_ 123 w1 w1.heap.size 75, Nat.le_refl _, Evs.nil_ w1 i0, by rw [HS.out]; rfl⟩
  have hsz := hK2.below.size
  have hmf : ∀ (fn : Fn) (first cap : Array Value) (w : World), (Instr.makeFunc fn first cap).run Tryz.prog w = .ok (.func fn first cap) w := fun _ _ _ _ => rfl
  have q15 : w1.cell? ⟨nb, 15, none⟩ = some (.pointer (some ⟨q, 0, none⟩)) := t1.cell 15
  have q4 : w1.cell? ⟨nb, 4, none⟩ = some (.int .i64 now) := t1.cell 4
  clear t1 hD2 hT2
  go_wp2_with fail
  clear q15
  refine (t_next q mb g cap tA tB i0 now w1 hst.tms hnn).mono ?_
  rintro e w2 ⟨ok, id, at_, k', rfl, hp, ht, hk⟩
  have hst2 := hst.next ht hk
  have hK3 : Kept (PD nb g tA tB) w w2 := hK2.trans (hk.mono fun i hi => Or.inr hi)
  have HP := hid hp
  have HST := hid hst2
  have HK := hid hK3
  clear hst hst2 ht hk hK2 hK3 hp q4
  go_wp2_with fail
  have HBS := hid hsz
  clear hsz
  generalize w1.heap.size = base at *
  go_loopw [5, 6, 7] (fun id at_ ok wr => TickR nb db wa q mb g cap tA tB i0 base now H A B w id at_ ok wr) (fun _ _ _ wr => muT nb wr)
  case atStart => exact ⟨0, 0, none, s, [], ok, id, at_, k', rfl, rfl, rfl, HP.out, by rw [HI0.out]; exact HM0.out, HST.out, HK.out⟩
  case round =>
    obtain ⟨n, c, O, s, evs, okb, idi, ati, k', rfl, rfl, rfl, hp, hle, hst, hK⟩ := hrel
    clear HP HST HK
    cases okb with
    | true =>
      rcases hp with ⟨_, hdue, hid1, hat1, hk1⟩ | ⟨h, _⟩
      rotate_left
      · cases h
      have HST := hid hst
      have HK := hid hK
      have HLE := hid hle
      have HDUE := hid hdue
      have HID := hid hid1
      have HAT := hid hat1
      have HK1 := hid hk1
      clear hst hK hle hdue hid1 hat1 hk1
      go_wp2_with fail
      rw [HID.out, HAT.out]
      refine (n_stream hWW.out nb base n c db wa q (i0 + n) O s now H A B evs wr HST.out.sent (by have := HLE.out; omega) (due_le _ _ HDUE.out hmax) HST.out.node HST.out.dec HST.out.out HST.out.low (by have := HLE.out; omega)).mono ?_
      intro e w3 h3
      have he := h3.1
      obtain ⟨O3, c3, X3, d3, hst3, hk3⟩ := HST.out.sent_ h3
      subst he
      clear h3
      have q4 : w3.cell? ⟨nb, 4, none⟩ = some (.int .i64 now) := hst3.node.cell 4
      rw [HK1.out] at hst3
      have hlt3 : i0 + (n + 1) ≤ cntP now := (due_iff (i0 + n) now hnn.1).1 HDUE.out
      have HLT := hid hlt3
      have hty := pt1_typed HST.out.node HST.out.out
      have hK3 : Kept (PD nb g tA tB) w w3 := HK.out.step hk3 (fun i hi hq => by
        rcases hq with rfl | hq
        · exact Or.inl rfl
        · have := (HST.out.out.typed i hq).1
          have := HBS.out
          omega)
      have HK3 := hid hK3
      have HST3 := hid hst3
      have HMU := hid (muT_is nb s wr (HST.out.node.cell 2))
      have HSN := hid HST.out.sent
      clear hst3 hk3 hK3 hty hlt3 HST HK HLE HDUE HK1
      go_wp2_with fail
      refine (t_next q mb g cap tA tB (i0 + n + 1) now w3 HST3.out.tms hnn).mono ?_
      rintro e w4 ⟨ok4, id4, at4, k4, rfl, hp4, ht4, hk4⟩
      have hst4 := HST3.out.next ht4 hk4
      have hK4 : Kept (PD nb g tA tB) w w4 := HK3.out.trans (hk4.mono fun i hi => Or.inr hi)
      have HP4 := hid hp4
      have HK4 := hid hK4
      have HST4 := hid hst4
      have HMU4 := hid (muT_is nb (s + 1) w4 (HST4.out.node.cell 2))
      clear hp4 ht4 hk4 hst4 hK4 HST3 HK3 q4
      go_wp2_with fail
      go_roundw
      case rel => exact ⟨n + 1, c3, O3, s + 1, _, ok4, id4, at4, k4, rfl, rfl, rfl, HP4.out, HLT.out, HST4.out, HK4.out⟩
      case measure =>
        rw [HMU.out, HMU4.out]
        have h1 := HLT.out
        have h2 := HSN.out
        omega
    | false =>
      rcases hp with ⟨h, _⟩ | ⟨_, hdue, hk1⟩
      · cases h
      have hfin : i0 + n = cntP now := by
        have h1 := (due_iff (i0 + n) now hnn.1).2
        omega
      have HF : Hid (Ticked nb db wa q mb g cap tA tB i0 now H A B w (.returned (.tuple #[])) wr) := hid ⟨rfl, n, c, base, O, s, evs, HBS.out, hfin, by rw [hk1] at hst; exact hst, hK⟩
      clear hst hK hle hdue hk1 hfin
      go_wp2
      go_end0
      exact HF.out
end Go.Proofs.YtldoocndhfgjhaaGreat
