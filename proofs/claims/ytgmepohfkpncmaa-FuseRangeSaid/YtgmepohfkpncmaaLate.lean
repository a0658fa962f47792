/- Regions that draw their order, where one operation, which waits for all the loads, may break the condition that the loads rest on. -/
import Derived.Test.YtgmepohfkpncmaaRng
namespace Go.Proofs.Ytgmepohfkpncmaa
open Go.RowKit
set_option linter.unusedVariables false
set_option linter.unusedSimpArgs false

/-- Whatever order is picked from here on, and S holds behind every operation but one. -/
def wpAnyE (P : Program) (md : Region.Mode) (ops : Array Oper) (Q : Exit → Act → World → Prop) (last : Nat) (S : World → Prop) : Nat → Array Bool → Act → World → Prop
  | 0, listed, a, w => Region.ready md ops listed = [] ∧ Q .normal a w
  | fuel + 1, listed, a, w =>
    (Region.ready md ops listed = [] → Q .normal a w) ∧
    ∀ i ∈ Region.ready md ops listed, wpOp P ops Q i (fun a' w' => (i ≠ last → S w') ∧ wpAnyE P md ops Q last S fuel (listed.setIfInBounds i true) a' w') a w

section
variable {P : Program} {md : Region.Mode} {ops : Array Oper} {Q : Exit → Act → World → Prop} {last : Nat} {S : World → Prop}

theorem wpAny_of_late : ∀ (fuel : Nat) (listed : Array Bool) (a : Act) (w : World), wpAnyE P md ops Q last S fuel listed a w → wpAny P md ops Q fuel listed a w
  | 0, _, _, _, h => h
  | fuel + 1, _, _, _, h => ⟨h.1, fun i hi => wpOp_mono (fun a' w' h' => wpAny_of_late fuel _ a' w' h'.2) (h.2 i hi)⟩

/-- Does the late operation wait for number i? -/
def waitsFor (md : Region.Mode) (ops : Array Oper) (last i : Nat) : Bool := (i != last) && (match ops[last]? with
  | some o => o.after.any fun e => Region.binds md e && e.on == i
  | none => true)
theorem waitsFor_spec {i : Nat} (h : waitsFor md ops last i = true) : i ≠ last ∧ ∀ o, ops[last]? = some o → ∃ e ∈ o.after, Region.binds md e = true ∧ e.on = i := by
  unfold waitsFor at h
  rw [Bool.and_eq_true] at h
  refine ⟨by simpa using h.1, fun o ho => ?_⟩
  have h2 := h.2
  rw [ho] at h2
  simp only at h2
  obtain ⟨k, hk, hb⟩ := Array.any_eq_true.1 h2
  obtain ⟨e, he, hb⟩ : ∃ e ∈ o.after, (Region.binds md e && e.on == i) = true := ⟨_, Array.getElem_mem hk, hb⟩
  rw [Bool.and_eq_true] at hb
  exact ⟨e, he, hb.1, by simpa using hb.2⟩

theorem wpAnyE_first {i : Nat} {oi : Oper} {v : Value} (hi : ops[i]? = some oi) (hsel : ∀ (j : Nat) (o : Oper) cs b, ops[j]? = some o → o.op ≠ .select cs b)
    (hw : waitsFor md ops last i = true) (hQ : ∀ c a w, Q (.panic c) (a.put oi.dst v) w → Q (.panic c) a w) :
    ∀ (fuel : Nat) (listed : Array Bool) (a : Act) (w : World),
      (∀ j oj, ops[j]? = some oj → j ≠ i → listed.getD j true = false → (∀ e ∈ oj.after, Region.binds md e = true → e.on ≠ i) → oi.apart ops oj = true) →
      i ∈ Region.ready md ops listed → YieldsIf P ops S oi v a → S w →
      wpAnyE P md ops Q last S fuel (listed.setIfInBounds i true) (a.put oi.dst v) w → wpAnyE P md ops Q last S (fuel + 1) listed a w := by
  intro fuel
  induction fuel with
  | zero =>
    intro listed a w _ hr hy hS H
    refine ⟨fun h => (by rw [h] at hr; cases hr), fun j hj => ?_⟩
    by_cases hji : j = i
    · subst hji; exact hy.wpOp hi hS ⟨fun _ => hS, H⟩
    · have := ready_mono hj hji
      rw [H.1] at this
      cases this
  | succ fuel ih =>
    intro listed a w hfree hr hy hS H
    refine ⟨fun h => (by rw [h] at hr; cases hr), fun j hj => ?_⟩
    by_cases hji : j = i
    · subst hji; exact hy.wpOp hi hS ⟨fun _ => hS, H⟩
    · have h1 := H.2 j (ready_mono hj hji)
      obtain ⟨hjun, oj, hoj, hall⟩ := mem_ready.1 hj
      have hnot : ∀ e ∈ oj.after, Region.binds md e = true → e.on ≠ i := fun e he hb heq => by
        have h1 := hall e he hb
        have h0 := (mem_ready.1 hr).1
        rw [heq] at h1
        rcases Nat.lt_or_ge i listed.size with h' | h'
        · simp [h'] at h0 h1; rw [h0] at h1; cases h1
        · simp [Array.getElem?_eq_none h'] at h1
      have hjl : j ≠ last := by
        rintro rfl
        obtain ⟨e, he, hb, heq⟩ := (waitsFor_spec hw).2 oj hoj
        exact hnot e he hb heq
      have h2 := wpOp_putIf hoj (hfree j oj hoj hji hjun hnot) (fun cs b => hsel i oi cs b hi) (fun cs b => hsel j oj cs b hoj) hQ hy h1
      have hfree' : ∀ k ok, ops[k]? = some ok → k ≠ i → (listed.setIfInBounds j true).getD k true = false →
          (∀ e ∈ ok.after, Region.binds md e = true → e.on ≠ i) → oi.apart ops ok = true := fun k ok hk hki hun hno => by
        refine hfree k ok hk hki ?_ hno
        by_cases hjk : j = k
        · subst hjk; exact hjun
        · rw [getD_set_ne true hjk] at hun; exact hun
      refine wpOp_mono (fun a' w' h3 => ⟨fun _ => h3.2.1 hjl, ih (listed.setIfInBounds j true) a' w' hfree' (ready_mono hr (Ne.symm hji)) h3.1 (h3.2.1 hjl) ?_⟩) h2
      rw [Array.setIfInBounds_comm _ _ hji]
      exact h3.2.2

/-- One operation is taken: all that is asked of it is found by the way. -/
theorem tkE (i : Nat) {oi : Oper} {v : Value} {fuel : Nat} {listed L : Array Bool} {a a' : Act} {w : World} (hS : S w) (h : wpAnyE P md ops Q last S fuel L a' w)
    (hi : ops[i]? = some oi := by simp only [List.getElem?_toArray, List.getElem?_cons_zero, List.getElem?_cons_succ]; rfl)
    (hs : Region.noSelect ops = true := by kernel_rfl) (hf : Region.free md ops listed i = true := by kernel_rfl) (hr : (Region.ready md ops listed).contains i = true := by kernel_rfl)
    (hw : waitsFor md ops last i = true := by kernel_rfl)
    (hy : YieldsIf P ops S oi v a := by refine Or.inl ⟨by kernel_rfl, ?_⟩; intro w hSw; (try dsimp only at hSw); go_simp; all_goals (with_reducible rfl))
    (hL : listed.setIfInBounds i true = L := by (try simp only [List.setIfInBounds_toArray, List.set_cons_zero, List.set_cons_succ]); with_reducible rfl)
    (ha : a.put oi.dst v = a' := by (try simp only [Act.put, List.setIfInBounds_toArray, List.set_cons_zero, List.set_cons_succ]); with_reducible rfl)
    (hQ : ∀ c a w, Q (.panic c) (a.put oi.dst v) w → Q (.panic c) a w := by exact fun _ _ _ h => h) : wpAnyE P md ops Q last S (fuel + 1) listed a w := by
  subst hL
  subst ha
  exact wpAnyE_first hi (Region.noSelect_spec hs) hw hQ fuel listed a w (Region.free_spec hi hf) (by simpa using hr) hy hS h
/-- The one operation that is ready (a call, an alloc ..). -/
theorem rdE (i : Nat) {o : Oper} {fuel : Nat} {listed L : Array Bool} {a : Act} {w : World}
    (h : ∀ K' : Act → World → Prop, Shut (∀ a w, S w → (S w → wpAnyE P md ops Q last S fuel L a w) → K' a w) → if Region.wanted o (yielded ops a.tmps) = true then Oper.wp P o a w K' Q else K' (a.put o.dst undef) w)
    (hr : Region.ready md ops listed = [i] := by kernel_rfl)
    (hl : i ≠ last := by decide)
    (ho : ops[i]? = some o := by simp only [List.getElem?_toArray, List.getElem?_cons_zero, List.getElem?_cons_succ]; rfl)
    (hL : listed.setIfInBounds i true = L := by (try simp only [List.setIfInBounds_toArray, List.set_cons_zero, List.set_cons_succ]); with_reducible rfl) : wpAnyE P md ops Q last S (fuel + 1) listed a w := by
  subst hL
  refine ⟨fun h0 => (by rw [hr] at h0; cases h0), fun j hj => ?_⟩
  rw [hr] at hj
  obtain rfl : j = i := by simpa using hj
  unfold wpOp
  simp only [ho]
  have h3 := h (fun a' w' => (j ≠ last → S w') ∧ wpAnyE P md ops Q last S fuel (listed.setIfInBounds j true) a' w') (show Shut _ from fun a w h1 h2 => ⟨fun _ => h1, h2 h1⟩)
  split
  · next hh => rw [if_pos hh] at h3; exact .inl h3
  · next hh => rw [if_neg hh] at h3; exact h3
/-- The late operation, the one that is ready. -/
theorem rdLast (i : Nat) {o : Oper} {fuel : Nat} {listed L : Array Bool} {a : Act} {w : World}
    (h : ∀ K' : Act → World → Prop, Shut (∀ a w, wpAnyE P md ops Q last S fuel L a w → K' a w) → if Region.wanted o (yielded ops a.tmps) = true then Oper.wp P o a w K' Q else K' (a.put o.dst undef) w)
    (hr : Region.ready md ops listed = [i] := by kernel_rfl)
    (hl : i = last := by rfl)
    (ho : ops[i]? = some o := by simp only [List.getElem?_toArray, List.getElem?_cons_zero, List.getElem?_cons_succ]; rfl)
    (hL : listed.setIfInBounds i true = L := by (try simp only [List.setIfInBounds_toArray, List.set_cons_zero, List.set_cons_succ]); with_reducible rfl) : wpAnyE P md ops Q last S (fuel + 1) listed a w := by
  subst hL
  subst hl
  refine ⟨fun h0 => (by rw [hr] at h0; cases h0), fun j hj => ?_⟩
  rw [hr] at hj
  obtain rfl : j = i := by simpa using hj
  unfold wpOp
  simp only [ho]
  have h3 := h (fun a' w' => (j ≠ j → S w') ∧ wpAnyE P md ops Q j S fuel (listed.setIfInBounds j true) a' w') (show Shut _ from fun a w h1 => ⟨fun h => absurd rfl h, h1⟩)
  split
  · next hh => rw [if_pos hh] at h3; exact .inl h3
  · next hh => rw [if_neg hh] at h3; exact h3
theorem doneE {listed : Array Bool} {a : Act} {w : World} (h : Q .normal a w) (hr : Region.ready md ops listed = [] := by kernel_rfl) : ∀ fuel, wpAnyE P md ops Q last S fuel listed a w
  | 0 => ⟨hr, h⟩
  | _ + 1 => ⟨fun _ => h, by rw [hr]; simp⟩
/-- A region that draws its order, in a round. -/
theorem late_inRound (last : Nat) {l n id : Nat} {a : Act} {w : World} {S : World → Prop} (hQ : ¬ LetsOut Q) (hm : P.follows .mixedOrders = true) (hd : noDefer ops = true)
    (h : S w.drew → wpAnyE P .any ops Q last S ops.size (Array.replicate ops.size false) a w.drew) (hS : S w.drew) : (Code.region id ops true).wpIn (Fence.wide.inRound l) n P Q a w :=
  wpIn_region_any hm (any_inRound l n hQ (noDefer_spec hd) _ _ _ _ (wpAny_of_late _ _ _ _ (h hS)))
theorem late_region (last : Nat) {id : Nat} {a : Act} {w : World} {S : World → Prop} (hm : P.follows .mixedOrders = true)
    (h : S w.drew → wpAnyE P .any ops Q last S ops.size (Array.replicate ops.size false) a w.drew) (hS : S w.drew) : (Code.region id ops true).wp P Q a w :=
  wp_region_any hm (wpAny_of_late _ _ _ _ (h hS))
end
end Go.Proofs.Ytgmepohfkpncmaa
