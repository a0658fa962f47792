/- Chapter 44: what is due next; what is sent then. -/
import Derived.Test.YtldoocndhfgjhaaGreatNodeG
namespace Go.Proofs.YtldoocndhfgjhaaGreat
open Go.RowKit
set_option linter.unusedVariables false
set_option linter.unusedSimpArgs false

/-- Event k: when, which, its packet. -/
def dueE (k : Nat) : Int := if k % 11 = 9 then dueB k else dueW k
def idE (k : Nat) : Int := if k % 11 = 9 then 0 else 1
def lenP (k : Nat) : Nat := if k % 11 = 9 then 17 else 22
def valE (k : Nat) : List Int := if k % 11 = 9 then [6, 8, 0, 0, 4, 3] else [dueW k, 537395712, 0, 0, 0]
def pktP (k : Nat) : List Int := if k % 11 = 9 then pkt0 ((k : Int) % 256) [6, 8, 0, 0, 4, 3] else pkt200 ((k : Int) % 256) [dueW k, 537395712, 0, 0, 0]
/-- How many events are due by a time. -/
def cntP (now : Int) : Nat := (now / 100 + now / 1000).toNat
theorem due_iff (k : Nat) (now : Int) (h : 0 ≤ now) : dueE k ≤ now ↔ k < cntP now := by
  unfold dueE dueB dueW bt wd cntP
  have hk : k = 11 * (k / 11) + k % 11 := by omega
  have hr : k % 11 < 11 := Nat.mod_lt _ (by decide)
  generalize k / 11 = b at hk
  generalize k % 11 = r at *
  subst hk
  split
  · next h9 =>
    subst h9
    have e2 : (11 * b + 9 + 1) / 11 = b := by omega
    rw [e2]
    omega
  · by_cases h10 : r = 10
    · subst h10
      have e2 : (11 * b + 10 + 1) / 11 = b + 1 := by omega
      rw [e2]
      omega
    · have e2 : (11 * b + r + 1) / 11 = b := by omega
      rw [e2]
      omega
/-- What stands to be sent. -/
def Pend (k : Nat) (now : Int) (ok : Bool) (id at_ : Int) (k' : Nat) : Prop :=
  (ok = true ∧ dueE k ≤ now ∧ id = idE k ∧ at_ = dueE k ∧ k' = k + 1) ∨ (ok = false ∧ now < dueE k ∧ k' = k)
theorem t_next (q mb g cap tA tB k : Nat) (now : Int) (w : World) (h : Tms w q mb g cap tA tB (dueB k) (dueW k)) (hn : 0 ≤ now ∧ now ≤ 1000000) :
    Calls Tryz.prog 50 #[.pointer (some ⟨q, 0, none⟩), .int .i64 now] w fun e w' => ∃ (ok : Bool) (id at_ : Int) (k' : Nat), e = .returned (.tuple #[.int .i64 id, .int .i64 at_, .bool ok]) ∧ Pend k now ok id at_ k' ∧ Tms w' q mb g cap tA tB (dueB k') (dueW k') ∧ Kept (P3 g tA tB) w w' := by
  by_cases hd : dueE k ≤ now
  · by_cases hk : k % 11 = 9
    · obtain ⟨h1, h2, h3, h4⟩ := due_beat k hk
      have e1 : dueE k = dueB k := by unfold dueE; rw [if_pos hk]
      have e2 : idE k = 0 := by unfold idE; rw [if_pos hk]
      rw [e1] at hd
      refine (t_beat q mb g cap tA tB (dueB k) (dueW k) now w h (by omega) h4 h1 hd).mono ?_
      rintro e w' ⟨rfl, k1, k2⟩
      exact ⟨true, 0, dueB k, k + 1, rfl, .inl ⟨rfl, by rw [e1]; exact hd, e2.symm, e1.symm, rfl⟩, by rw [h2, h3]; exact k1, k2⟩
    · obtain ⟨h1, h2, h3, h4⟩ := due_word k hk
      have e1 : dueE k = dueW k := by unfold dueE; rw [if_neg hk]
      have e2 : idE k = 1 := by unfold idE; rw [if_neg hk]
      rw [e1] at hd
      refine (t_word q mb g cap tA tB (dueB k) (dueW k) now w h (by omega) h4 h1 hd).mono ?_
      rintro e w' ⟨rfl, k1, k2⟩
      exact ⟨true, 1, dueW k, k + 1, rfl, .inl ⟨rfl, by rw [e1]; exact hd, e2.symm, e1.symm, rfl⟩, by rw [h2, h3]; exact k1, k2⟩
  · have hd2 : now < dueE k := by omega
    have hd3 := hd2
    unfold dueE at hd3
    refine (t_none q mb g cap tA tB (dueB k) (dueW k) now w h (by omega) ?_ ?_).mono ?_
    · split at hd3
      · exact hd3
      · next hk => have := due_word k hk; omega
    · split at hd3
      · next hk => have := due_beat k hk; omega
      · exact hd3
    · rintro e w' ⟨rfl, rfl⟩
      exact ⟨false, 0, 0, k, rfl, .inr ⟨rfl, hd2, rfl⟩, h, Kept.refl _ _⟩
theorem due_bd (k : Nat) : 0 ≤ dueE k := by
  unfold dueE dueB dueW bt wd
  split <;> omega
theorem n_stream (hW : Word0) (nb base n c db wa q k : Nat) (O : Option Addr) (s now : Int) (H A B : Value) (evs : List (List Value)) (w : World) (hs : s = ((k : Nat) : Int)) (hk : k ≤ 10000) (hat : dueE k ≤ 1000000) (hN : Blk w nb 106 (.int .i64 1 :: .int .i64 1 :: .int .i64 s :: .slice O n c :: ndR now db q H A B).toArray) (hD : Blk w db 125 (decC wa)) (hO : OTab 123 w base 75 O n c evs) (hb : base ≤ w.heap.size) (hn : n ≤ 10000) :
    Calls Tryz.prog 51 #[.pointer (some ⟨nb, 0, none⟩), .int .i64 (idE k), .int .i64 (dueE k)] w (Sent nb base n c O s (ndR now db q H A B) evs (lenP k) (pktP k) w) := by
  have h0 := due_bd k
  subst hs
  by_cases hk9 : k % 11 = 9
  · have e1 : dueE k = dueB k := by unfold dueE; rw [if_pos hk9]
    have e2 : idE k = 0 := by unfold idE; rw [if_pos hk9]
    have e3 : lenP k = 17 := by unfold lenP; rw [if_pos hk9]
    have e4 : pktP k = pkt0 ((k : Int) % 256) [6, 8, 0, 0, 4, 3] := by unfold pktP; rw [if_pos hk9]
    rw [e1] at h0 hat
    rw [e1, e2, e3, e4]
    exact n_stream0 nb base n c db wa q O k now (dueB k) H A B evs w (by omega) ⟨h0, hat⟩ hN hD hO hb hn
  · have e1 : dueE k = dueW k := by unfold dueE; rw [if_neg hk9]
    have e2 : idE k = 1 := by unfold idE; rw [if_neg hk9]
    have e3 : lenP k = 22 := by unfold lenP; rw [if_neg hk9]
    have e4 : pktP k = pkt200 ((k : Int) % 256) [dueW k, 537395712, 0, 0, 0] := by unfold pktP; rw [if_neg hk9]
    rw [e1] at h0 hat
    rw [e1, e2, e3, e4]
    exact n_stream1 hW nb base n c db q O k now (dueW k) H A B evs w (by omega) ⟨h0, hat⟩ hN hO hb hn
end Go.Proofs.YtldoocndhfgjhaaGreat
namespace Go.Proofs.YtldoocndhfgjhaaGreat
open Go.RowKit
set_option linter.unusedVariables false
set_option linter.unusedSimpArgs false

/-- What a node's step may turn. -/
def PD (nb g tA tB : Nat) (i : Nat) : Prop := i = nb ∨ i = g ∨ i = tA ∨ i = tB
/-- The events that were told, and their bytes. -/
def Evs (w : World) (i0 : Nat) (evs : List (List Value)) : Prop := ∀ (j : Nat) (p : List Value), evs[j]? = some p → ∃ X d, p = evL (.slice X (lenP (i0 + j)) d) ∧ Own .u8 w 0 5 X (lenP (i0 + j)) d (pktP (i0 + j))
theorem Evs.nil_ (w : World) (i0 : Nat) : Evs w i0 [] := fun j p h => by simp at h
theorem Evs.keptP {P : Nat → Prop} {w w' : World} {i0 : Nat} {evs : List (List Value)} (h : Evs w i0 evs) (hk : Kept P w w') (hP : ∀ i cs, P i → Blk w i 5 cs → False) : Evs w' i0 evs := fun j p hj => by
  obtain ⟨X, d, h1, h2⟩ := h j p hj
  exact ⟨X, d, h1, h2.keptP hk hP⟩
theorem Evs.app {w : World} {i0 : Nat} {evs : List (List Value)} {X : Option Addr} {d : Nat} (h : Evs w i0 evs) (hx : Own .u8 w 0 5 X (lenP (i0 + evs.length)) d (pktP (i0 + evs.length))) : Evs w i0 (evs ++ [evL (.slice X (lenP (i0 + evs.length)) d)]) := by
  intro j p hj
  by_cases hlt : j < evs.length
  · rw [List.getElem?_append_left hlt] at hj
    exact h j p hj
  · have hj2 : j = evs.length := by
      have := (List.getElem?_eq_some_iff.1 hj).1
      simp at this
      omega
    subst hj2
    rw [List.getElem?_append_right (Nat.le_refl _)] at hj
    simp at hj
    exact ⟨X, d, hj.symm, hx⟩
/-- A node behind n events of a step, its timers standing at event k. -/
structure NSt (w : World) (nb db wa q mb g cap tA tB base i0 n c : Nat) (O : Option Addr) (s now : Int) (H A B : Value) (evs : List (List Value)) (k : Nat) : Prop where
  node : Blk w nb 106 (.int .i64 1 :: .int .i64 1 :: .int .i64 s :: .slice O n c :: ndR now db q H A B).toArray
  dec : Blk w db 125 (decC wa)
  tms : Tms w q mb g cap tA tB (dueB k) (dueW k)
  out : OTab 123 w base 75 O n c evs
  low : base ≤ w.heap.size
  evs_ : Evs w i0 evs
  sent : s = ((i0 + n : Nat) : Int)
theorem p3_typed {w : World} {q mb g cap tA tB : Nat} {a0 a1 : Int} (h : Tms w q mb g cap tA tB a0 a1) (i : Nat) (hi : P3 g tA tB i) : ∃ cs, Blk w i 140 cs ∨ Blk w i 142 cs := by
  obtain ⟨cs, ⟨_, h1, h2, h3⟩ | ⟨_, h1, h2, h3⟩⟩ := h.heap <;> rcases hi with rfl | rfl | rfl
  · exact ⟨_, .inl h1⟩
  · exact ⟨_, .inr h2⟩
  · exact ⟨_, .inr h3⟩
  · exact ⟨_, .inl h1⟩
  · exact ⟨_, .inr h2⟩
  · exact ⟨_, .inr h3⟩
theorem pt1_typed {w : World} {nb base n c : Nat} {O : Option Addr} {cs : Array Value} {evs : List (List Value)} (hN : Blk w nb 106 cs) (hO : OTab 123 w base 75 O n c evs) (i : Nat) (hi : PT1 nb (.slice O n c) i) : ∃ cs, Blk w i 106 cs ∨ Blk w i 75 cs := by
  rcases hi with rfl | hi
  · exact ⟨_, .inl hN⟩
  · obtain ⟨_, _, cs', h⟩ := hO.typed i hi
    exact ⟨cs', .inr h⟩
/-- The next one is looked for. -/
theorem NSt.next {w w' : World} {nb db wa q mb g cap tA tB base i0 n c : Nat} {O : Option Addr} {s now : Int} {H A B : Value} {evs : List (List Value)} {k k' : Nat} (h : NSt w nb db wa q mb g cap tA tB base i0 n c O s now H A B evs k) (ht : Tms w' q mb g cap tA tB (dueB k') (dueW k')) (hk : Kept (P3 g tA tB) w w') : NSt w' nb db wa q mb g cap tA tB base i0 n c O s now H A B evs k' := by
  have hty := p3_typed h.tms
  refine ⟨hk.blk h.node ?_, hk.blk h.dec ?_, ht, h.out.keptP hk ?_, Nat.le_trans h.low hk.below.size, h.evs_.keptP hk ?_, h.sent⟩
  · intro hp
    obtain ⟨cs, hc | hc⟩ := hty _ hp <;> exact absurd (hc.alone h.node) (by decide)
  · intro hp
    obtain ⟨cs, hc | hc⟩ := hty _ hp <;> exact absurd (hc.alone h.dec) (by decide)
  · intro i cs hp hB
    obtain ⟨cs, hc | hc⟩ := hty _ hp <;> exact absurd (hc.alone hB) (by decide)
  · intro i cs hp hB
    obtain ⟨cs, hc | hc⟩ := hty _ hp <;> exact absurd (hc.alone hB) (by decide)
/-- An event is sent. -/
theorem NSt.sent_ {w w' : World} {nb db wa q mb g cap tA tB base i0 n c : Nat} {O : Option Addr} {s now : Int} {H A B : Value} {evs : List (List Value)} {k : Nat} {e : Ending} (h : NSt w nb db wa q mb g cap tA tB base i0 n c O s now H A B evs k) (hs : Sent nb base n c O s (ndR now db q H A B) evs (lenP (i0 + n)) (pktP (i0 + n)) w e w') : ∃ O' c' X d, NSt w' nb db wa q mb g cap tA tB base i0 (n + 1) c' O' (s + 1) now H A B (evs ++ [evL (.slice X (lenP (i0 + n)) d)]) k ∧ Kept (PT1 nb (.slice O n c)) w w' := by
  obtain ⟨_, O', c', X, d, h1, h2, h3, hk⟩ := hs
  have hty := pt1_typed h.node h.out
  have hlen : evs.length = n := h.out.2.2
  have he : Evs w' i0 evs := h.evs_.keptP hk (by
    intro i cs hp hB
    obtain ⟨cs, hc | hc⟩ := hty _ hp <;> exact absurd (hc.alone hB) (by decide))
  refine ⟨O', c', X, d, ⟨h1, hk.blk h.dec ?_, h.tms.keptP hk ?_, h2, Nat.le_trans h.low hk.below.size, ?_, ?_⟩, hk⟩
  · intro hp
    obtain ⟨cs, hc | hc⟩ := hty _ hp <;> exact absurd (hc.alone h.dec) (by decide)
  · intro i t cs hp hB ht
    obtain ⟨cs, hc | hc⟩ := hty _ hp <;> (have := hc.alone hB; subst this; revert ht; decide)
  · subst hlen
    exact he.app (h3.lower (Nat.zero_le _))
  · rw [h.sent]; omega
theorem Blk.ne_ {w : World} {g g' : Nat} {t t' : TypeId} {cs cs' : Array Value} (h : Blk w g t cs) (h' : Blk w g' t' cs') (ht : t ≠ t') : g ≠ g' := fun e => by subst e; exact ht (h.alone h')
theorem Kept.step {P Q : Nat → Prop} {a b c : World} (h : Kept P a b) (k : Kept Q b c) (hQ : ∀ i, i < a.heap.size → Q i → P i) : Kept P a c :=
  ⟨h.below.trans k.below, fun i hi hp => (k.keep i (Nat.lt_of_lt_of_le hi h.below.size) (fun hq => hp (hQ i hi hq))).trans (h.keep i hi hp)⟩
end Go.Proofs.YtldoocndhfgjhaaGreat
