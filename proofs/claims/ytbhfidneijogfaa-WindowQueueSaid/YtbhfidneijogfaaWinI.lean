/- Chapter 39: a window as its queue: what each call does. -/
import Derived.Test.YtbhfidneijogfaaWinH
namespace Go.Proofs.Ytbhfidneijogfaa
open Go.RowKit
set_option linter.unusedVariables false
set_option linter.unusedSimpArgs false

def Que (w : World) (g : Nat) (q : List Int) : Prop := ∃ (bs : List Int) (P N : Nat), Win w g true bs P N ∧ P < 1024 ∧ N ≤ 1024 ∧ qW bs P N = q
theorem Que.len {w : World} {g : Nat} {q : List Int} (h : Que w g q) : q.length ≤ 1024 := by
  obtain ⟨bs, P, N, _, _, hN, rfl⟩ := h
  rw [len_qW]; exact hN
theorem Que.lt {w : World} {g : Nat} {q : List Int} (h : Que w g q) : g < w.heap.size := by
  obtain ⟨bs, P, N, h, _⟩ := h
  exact h.1.lt
theorem Que.below {w w' : World} {g B : Nat} {q : List Int} (h : Que w g q) (hb : Below B w w') (hg : g < B) : Que w' g q := by
  obtain ⟨bs, P, N, h, r⟩ := h
  exact ⟨bs, P, N, h.below hb hg, r⟩
theorem Que.grown {w w' : World} {g : Nat} {row : Option Nat} {q : List Int} (h : Que w g q) (hb : w.grownBy w' row) (hg : some g ≠ row) : Que w' g q := by
  obtain ⟨bs, P, N, h, r⟩ := h
  exact ⟨bs, P, N, h.grown hb hg, r⟩
theorem Que.drew {w : World} {g : Nat} {q : List Int} (h : Que w g q) : Que w.drew g q := h
theorem Que.alloc {w : World} {g : Nat} {q : List Int} (h : Que w g q) (o : Obj) : Que (w.alloc o) g q := by
  obtain ⟨bs, P, N, h, r⟩ := h
  exact ⟨bs, P, N, ⟨h.1.alloc o, h.2⟩, r⟩

theorem q_New (w : World) :
    Calls Try.prog 15 #[] w fun e w' => ∃ g, e = .returned (.pointer (some ⟨g, 0, none⟩)) ∧ w.heap.size ≤ g ∧ Que w' g [] ∧ Below w.heap.size w w' := by
  refine (w_New w).mono ?_
  rintro e w' ⟨g, rfl, h1, h2, h3⟩
  exact ⟨g, rfl, h1, ⟨_, 0, 0, h2, by omega, by omega, rfl⟩, h3⟩
theorem q_Len (g : Nat) (q : List Int) (w : World) (h : Que w g q) :
    Calls Try.prog 19 #[.pointer (some ⟨g, 0, none⟩)] w fun e w' => e = .returned (.int .i64 (q.length : Nat)) ∧ w = w' := by
  obtain ⟨bs, P, N, h, hP, hN, rfl⟩ := h
  refine (w_Len g true bs P N w h).mono ?_
  rintro e w' ⟨rfl, rfl⟩
  exact ⟨by simp [cntP, len_qW], rfl⟩
theorem q_Room (g : Nat) (q : List Int) (w : World) (h : Que w g q) :
    Calls Try.prog 20 #[.pointer (some ⟨g, 0, none⟩)] w fun e w' => e = .returned (.int .i64 (1024 - (q.length : Nat))) ∧ w = w' := by
  obtain ⟨bs, P, N, h, hP, hN, rfl⟩ := h
  refine (w_Room g true bs P N w h (by omega)).mono ?_
  rintro e w' ⟨rfl, rfl⟩
  exact ⟨by simp [roomW, len_qW], rfl⟩
theorem q_First (g : Nat) (q : List Int) (w : World) (h : Que w g q) :
    Calls Try.prog 23 #[.pointer (some ⟨g, 0, none⟩)] w fun e w' => e = .returned (.tuple #[.int .u8 (q[0]?.getD 0), .bool (decide (0 < q.length))]) ∧ Below w.heap.size w w' := by
  obtain ⟨bs, P, N, h, hP, hN, rfl⟩ := h
  refine (w_First g true bs P N w h hP).mono ?_
  rintro e w' ⟨rfl, hb⟩
  refine ⟨?_, hb⟩
  unfold firstV cntP
  rw [len_qW]
  by_cases h0 : N = 0
  · subst h0; rfl
  · have e1 : (qW bs P N)[0]?.getD 0 = bs[P]?.getD 0 := by
      rw [List.getElem?_eq_getElem (by rw [len_qW]; omega)]
      simp [qW, Nat.mod_eq_of_lt hP]
    rw [e1]
    simp [h0, Nat.pos_of_ne_zero h0]
theorem q_Peek (g : Nat) (q : List Int) (w : World) (h : Que w g q) :
    Calls Try.prog 16 #[.pointer (some ⟨g, 0, none⟩)] w fun e w' => e = .returned (.slice (some ⟨w.heap.size, 0, none⟩) q.length q.length) ∧ Below w.heap.size w w' ∧
      Blk w' w.heap.size 5 (q.map (Value.int .u8)).toArray := by
  obtain ⟨bs, P, N, h, hP, hN, rfl⟩ := h
  rw [len_qW]
  exact w_Peek g bs P N w h hP hN
theorem q_Drop (g : Nat) (q : List Int) (k : Int) (w : World) (h : Que w g q) :
    Calls Try.prog 17 #[.pointer (some ⟨g, 0, none⟩), .int .i64 k] w fun e w' => e = .returned (.int .i64 (min k.toNat q.length : Nat)) ∧ w.grownBy w' (some g) ∧ Que w' g (q.drop (min k.toNat q.length)) := by
  obtain ⟨bs, P, N, h, hP, hN, rfl⟩ := h
  rw [len_qW]
  have e0 : goP true N k = (min k.toNat N : Nat) := by simp only [goP, cntP, if_true]; omega
  refine (w_Drop g true bs P N k w h (by omega) (by omega)).mono ?_
  rw [e0]
  generalize hK : min k.toNat N = K
  rintro e w' ⟨rfl, hg, h2⟩
  refine ⟨rfl, hg, ?_⟩
  rcases h2 with ⟨h0, h2⟩ | ⟨h0, h3, h2⟩
  · obtain rfl : K = 0 := by omega
    exact ⟨bs, P, N, h2, hP, hN, rfl⟩
  · rw [show ((P : Int) + (K : Int)) % 1024 = (((P + K) % 1024 : Nat) : Int) by omega, show (N : Int) - (K : Int) = ((N - K : Nat) : Int) by omega] at h2
    exact ⟨bs, (P + K) % 1024, N - K, h2, by omega, by omega, q_drop bs P N K (by omega)⟩
theorem q_Put (g : Nat) (q : List Int) (A : Option Addr) (m c : Nat) (xs : List Int) (B : Nat) (w : World) (h : Que w g q) (hmc : m ≤ c) (hml : m ≤ maxLen) (hr : ∀ w', w.grownBy w' (some g) → Row .u8 w' B A m xs) :
    Calls Try.prog 18 #[.pointer (some ⟨g, 0, none⟩), .slice A m c] w fun e w' => e = .returned (.int .i64 (min m (1024 - q.length) : Nat)) ∧ w.grownBy w' (some g) ∧ Que w' g (q ++ xs.take (min m (1024 - q.length))) := by
  obtain ⟨bs, P, N, h, hP, hN, rfl⟩ := h
  rw [len_qW]
  rcases Nat.eq_zero_or_pos (min m (1024 - N)) with h0 | h0
  · refine (w_Put_full g bs P N A m c w h hN h0).mono ?_
    rintro e w' ⟨rfl, rfl⟩
    rw [h0]
    exact ⟨rfl, World.grownBy.refl _ _, ⟨bs, P, N, h, hP, hN, by simp⟩⟩
  · have hr0 := hr w (World.grownBy.refl _ _)
    obtain ⟨ad, rfl, _⟩ := hr0.at_ (j := 0) (by omega)
    refine (w_Put_some g bs P N ad m c xs B w h hP hN h0 hmc hml hr).mono ?_
    rintro e w' ⟨rfl, hg, h2⟩
    refine ⟨rfl, hg, ⟨_, P, N + min m (1024 - N), h2, hP, by omega, ?_⟩⟩
    have l1 : (xs.take (min m (1024 - N))).length = min m (1024 - N) := by simp [hr0.1] <;> omega
    have := q_put bs P N (xs.take (min m (1024 - N))) h.2 hP (by rw [l1]; omega)
    rw [l1] at this
    exact this
/-- A slice of what was there ahead of the window stays as it was. -/
theorem Row.aside {k : IntKind} {w w' : World} {B g : Nat} {A : Option Addr} {n : Nat} {xs : List Int} (h : Row k w B A n xs) (hB : B ≤ g) (hg : g < w.heap.size) (hw : w.grownBy w' (some g)) : Row k w' B A n xs := by
  have hb : Below B w w' := (Below.refl B w).grown hw (by omega) (fun k hk => by cases hk; exact hB)
  exact h.below hb
end Go.Proofs.Ytbhfidneijogfaa
