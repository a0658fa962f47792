/- Chapter 44: a message is sent. -/
import Derived.Test.YtldoocndhfgjhaaGreatSch
import Derived.Test.YtldoocndhfgjhaaGreatTlmC
namespace Go.Proofs.YtldoocndhfgjhaaGreat
open Go.RowKit
set_option linter.unusedVariables false
set_option linter.unusedSimpArgs false

theorem and255 (x : Int) (h : 0 ≤ x ∧ x ≤ 100000) : bits .and .i64 x 255 = x % 256 := by
  obtain ⟨n, rfl⟩ := Int.eq_ofNat_of_zero_le h.1
  show IntKind.i64.wrap (((BitVec.ofInt 64 (n : Int) &&& BitVec.ofInt 64 255).toNat : Nat) : Int) = _
  have e : BitVec.ofInt 64 255 = BitVec.ofNat 64 255 := by decide
  rw [BitVec.ofInt_natCast, e, BitVec.toNat_and, BitVec.toNat_ofNat, BitVec.toNat_ofNat, IntKind.wrap_i64]
  have : (n % 2 ^ 64) &&& (255 % 2 ^ 64) = n % 256 := by
    rw [Nat.mod_eq_of_lt (by omega : n < 2 ^ 64), Nat.mod_eq_of_lt (by omega : 255 < 2 ^ 64)]; exact Nat.and_two_pow_sub_one_eq_mod n 8
  rw [this]; omega
theorem evIs (X : Value) : ((Tryz.zeroCells75.setIfInBounds 0 (.int .i64 2)).setIfInBounds 121 X) = (evL X).toArray := by kernel_rfl
theorem ownsRow_keptP {w w' : World} {base : Nat} {e : TypeId} {size : Nat} {v : Value} {n : Nat} {xs : List Value} (h : w.ownsRow base e size v n xs) (hk : ∀ i, v.ownBlock = some i → w'.heap[i]? = w.heap[i]?) : w'.ownsRow base e size v n xs := by
  refine ⟨h.1, ?_⟩
  rcases h.2 with h0 | ⟨g, cap, cur, rfl, hb, hg, h2⟩
  · exact .inl h0
  · exact .inr ⟨g, cap, cur, rfl, hb, (hk g rfl).trans hg, h2⟩
theorem Blk.alone {w : World} {g : Nat} {t t' : TypeId} {cs cs' : Array Value} (h : Blk w g t cs) (h' : Blk w g t' cs') : t = t' := by
  unfold Blk at h h'
  rw [h] at h'
  injection h' with h'
  injection h' with _ ht
theorem Own.typed {k : IntKind} {w : World} {base : Nat} {e : TypeId} {A : Option Addr} {n c : Nat} {ys : List Int} (h : Own k w base e A n c ys) (i : Nat) (hi : (Value.slice A n c).ownBlock = some i) : base ≤ i ∧ i < w.heap.size ∧ ∃ cs, Blk w i e cs := by
  rcases h.2 with ⟨hv, _⟩ | ⟨g, cap, cur, hv, hb, hg, _⟩
  · cases hv; cases hi
  · cases hv
    have : g = i := by simpa [Value.ownBlock] using hi
    subst this
    exact ⟨hb, (Array.getElem?_eq_some_iff.1 hg).1, cur, hg⟩
theorem OTab.typed {sz : Nat} {w : World} {base : Nat} {e : TypeId} {A : Option Addr} {n c : Nat} {ps : List (List Value)} (h : OTab sz w base e A n c ps) (i : Nat) (hi : (Value.slice A n c).ownBlock = some i) : base ≤ i ∧ i < w.heap.size ∧ ∃ cs, Blk w i e cs := by
  rcases h.1.2 with ⟨hv, _⟩ | ⟨g, cap, cur, hv, hb, hg, _⟩
  · cases hv; cases hi
  · cases hv
    have : g = i := by simpa [Value.ownBlock] using hi
    subst this
    exact ⟨hb, (Array.getElem?_eq_some_iff.1 hg).1, cur, hg⟩
theorem Own.keptP {P : Nat → Prop} {k : IntKind} {w w' : World} {base : Nat} {e : TypeId} {A : Option Addr} {n c : Nat} {ys : List Int} (h : Own k w base e A n c ys) (hk : Kept P w w') (hP : ∀ i cs, P i → Blk w i e cs → False) : Own k w' base e A n c ys :=
  ownsRow_keptP h fun i hi => by
    obtain ⟨_, h2, cs, h3⟩ := h.typed i hi
    exact hk.keep i h2 (fun hp => hP i cs hp h3)
theorem OTab.keptP {P : Nat → Prop} {sz : Nat} {w w' : World} {base : Nat} {e : TypeId} {A : Option Addr} {n c : Nat} {ps : List (List Value)} (h : OTab sz w base e A n c ps) (hk : Kept P w w') (hP : ∀ i cs, P i → Blk w i e cs → False) : OTab sz w' base e A n c ps :=
  ⟨ownsRow_keptP h.1 fun i hi => by
    obtain ⟨_, h2, cs, h3⟩ := h.typed i hi
    exact hk.keep i h2 (fun hp => hP i cs hp h3), h.2⟩
theorem Own.lower {k : IntKind} {w : World} {base b' : Nat} {e : TypeId} {A : Option Addr} {n c : Nat} {ys : List Int} (h : Own k w base e A n c ys) (hb : b' ≤ base) : Own k w b' e A n c ys := by
  refine ⟨h.1, ?_⟩
  rcases h.2 with h0 | ⟨g, cap, cur, hv, hb2, hg, h2⟩
  · exact .inl h0
  · exact .inr ⟨g, cap, cur, hv, by omega, hg, h2⟩
/-- What a node's message leaves. -/
def Sent (nb base n c : Nat) (A : Option Addr) (s : Int) (rest : List Value) (evs : List (List Value)) (L : Nat) (bs : List Int) (w : World) (e : Ending) (w' : World) : Prop :=
  e = .returned (.tuple #[]) ∧ ∃ A' c' X d, Blk w' nb 106 (.int .i64 1 :: .int .i64 1 :: .int .i64 (s + 1) :: .slice A' (n + 1) c' :: rest).toArray ∧ OTab 123 w' base 75 A' (n + 1) c' (evs ++ [evL (.slice X L d)]) ∧ Own .u8 w' w.heap.size 5 X L d bs ∧ Kept (PT1 nb (.slice A n c)) w w'
set_option maxRecDepth 20000 in
set_option maxHeartbeats 8000000 in
theorem n_send0 (nb base n c cap : Nat) (A B : Option Addr) (s : Int) (vs : List Int) (rest : List Value) (evs : List (List Value)) (w : World) (hs : 0 ≤ s ∧ s ≤ 10000) (hN : Blk w nb 106 (.int .i64 1 :: .int .i64 1 :: .int .i64 s :: .slice A n c :: rest).toArray) (hO : OTab 123 w base 75 A n c evs) (hb : base ≤ w.heap.size) (hn : n ≤ 10000) (hv : Row .i64 w w.heap.size B 6 vs) (hk : ∀ j, j < 6 → VK (fs0[j]?.getD (0, false)).1 (fs0[j]?.getD (0, false)).2 ((wireP ss0 vs)[j]?.getD 0)) :
    Calls Tryz.prog 52 #[.pointer (some ⟨nb, 0, none⟩), .int .i64 0, .slice B 6 cap] w (Sent nb base n c A s rest evs 17 (pkt0 (s % 256) vs) w) := by
  obtain ⟨sq, hsq⟩ : ∃ sq, s % 256 = sq := ⟨_, rfl⟩
  have hu8 : U8 sq := by unfold U8; omega
  have HA := hid ((and255 s (by omega)).trans hsq)
  rw [hsq]
  have HSP := hid fun w (h : Row .i64 w w.heap.size B 6 vs) => t_Put0 sq B cap vs w hu8 h hk
  have hsq2 := hid hsq
  clear hsq hk
  obtain ⟨sn, hsn⟩ : ∃ sn, s + 1 = sn := ⟨_, rfl⟩
  have us : IntKind.i64.wrap (s + 1) = sn := (IntWalk.i64_in _ (by omega)).trans hsn
  have HSN := hid hsn
  clear hsn
  have hand := HA.out
  have hK := Kept.refl (PT1 nb (.slice A n c)) w
  go_enter Tryz.func52, Tryz.ntmps52
  go_upto_region 0 with fail
  refine wp_region_held_drew (S := (fun w' : World => w'.cell? ⟨nb, 0, none⟩ = some (.int .i64 1) ∧ w'.cell? ⟨nb, 1, none⟩ = some (.int .i64 1) ∧ w'.cell? ⟨nb, 2, none⟩ = some (.int .i64 s))) (by kernel_rfl) ⟨hN.cell 0, hN.cell 1, hN.cell 2⟩ (fun hHeld => ?_)
  refine (show wpAnyH _ _ _ _ _ 23 _ _ _ from ?_)
  try (simp only [Act.put, List.setIfInBounds_toArray, List.set_cons_zero, List.set_cons_succ])
  replace hN := hN.drew
  replace hO := hO.drew
  replace hv := hv.drew
  replace hK := hK.drew
  have hsz : w.drew.heap.size = w.heap.size := rfl
  rw [← hsz] at hv hb
  have HSZ := hid hsz
  clear hsz
  generalize w.drew = V0 at *
  refine tk 0 hHeld ?_
  refine tk 1 hHeld ?_
  refine tk 2 hHeld ?_
  refine tk 3 hHeld ?_
  refine tk 4 hHeld ?_
  refine tk 5 hHeld ?_
  refine tk 6 hHeld ?_
  refine tk 7 hHeld ?_
  refine tk 8 hHeld ?_
  refine tk 9 hHeld ?_
  refine tk 10 hHeld ?_
  refine tk 11 hHeld ?_
  refine tk 12 hHeld ?_
  refine tk 13 hHeld ?_
  refine tk 14 hHeld ?_
  refine tk 15 hHeld ?_
  refine tk 16 hHeld ?_
  refine rd1 17 (fun KK hKK => ?_)
  go_simp
  try go_wp2_with fail
  refine (HSP.out V0 hv).mono ?_
  intro e w2 hp
  obtain ⟨X, d, rfl, o1, b1⟩ := hp.to 17 (pkt_len0 sq vs)
  clear hp hv
  replace hN := hN.below b1 hN.lt
  replace hO := hO.below b1 (Nat.le_refl _)
  replace hK := hK.trans (Kept.of_below b1)
  have hb2 := Nat.le_trans hb b1.size
  have hsz := b1.size
  generalize pkt0 sq vs = bs at *
  clear b1
  refine hKK.out _ _ ⟨hN.cell 0, hN.cell 1, hN.cell 2⟩ (fun hHeld => ?_)
  clear hKK KK
  try (simp only [Act.put, List.setIfInBounds_toArray, List.set_cons_zero, List.set_cons_succ])
  refine tk 18 hHeld ?_
  refine tk 19 hHeld ?_
  refine tk 20 hHeld ?_
  refine rd1 21 (fun KK hKK => ?_)
  go_simp
  try go_wp2_with fail
  refine hKK.out _ _ ⟨hN.cell 0, hN.cell 1, hN.cell 2⟩ (fun hHeld => ?_)
  clear hKK KK
  try (simp only [Act.put, List.setIfInBounds_toArray, List.set_cons_zero, List.set_cons_succ])
  refine rd1 22 (fun KK hKK => ?_)
  go_simp
  try go_wp2_with fail
  refine hKK.out _ _ ⟨hN.cell 0, hN.cell 1, hN.cell 2⟩ (fun hHeld => ?_)
  clear hKK KK
  try (simp only [Act.put, List.setIfInBounds_toArray, List.set_cons_zero, List.set_cons_succ])
  refine wpAnyH_done (by kernel_rfl) ?_ _
  clear hHeld
  have q2 : w2.cell? ⟨nb, 2, none⟩ = some (.int .i64 s) := hN.cell 2
  have z2 := hN.frozen 2
  go_wp2_with fail
  rw [evIs]
  have t1 := hN.set_ 2 (.int .i64 sn)
  simp only [List.setIfInBounds_toArray, List.set_cons_zero, List.set_cons_succ] at t1
  have t2 := hO.kept (only_set (World.grownBy.refl w2 (some nb)) 2 (.int .i64 sn)) (Or.inr (Ne.symm (hO.ne_ hN (by decide))))
  have t4 := o1.kept (only_set (World.grownBy.refl w2 (some nb)) 2 (.int .i64 sn)) (Or.inr (Ne.symm (o1.ne_ hN (by decide))))
  have t3 := hK.set_ (p := ⟨nb, 2, none⟩) (Or.inl (Or.inl rfl)) (.int .i64 sn)
  have hb3 : base ≤ (w2.setCell ⟨nb, 2, none⟩ (.int .i64 sn)).heap.size := by rw [World.size_setCell]; exact hb2
  have T3 := hid t3
  have T4 := hid t4
  clear o1 hO hN hK t3 t4 q2 z2
  generalize w2.setCell ⟨nb, 2, none⟩ (.int .i64 sn) = w3 at *
  refine (n_tell nb base n c A (.slice X 17 d) _ _ _ rest evs w3 rfl t1 t2 hb3 hn).mono ?_
  rintro e w4 ⟨rfl, A2, c2, h1, h2, h3⟩
  have hKK := T3.out.trans h3
  have t4 := T4.out
  have o4 : Own .u8 w4 V0.heap.size 5 X 17 d bs := t4.keptP h3 (by
    rintro i cs (rfl | hi) hB
    · exact absurd (hB.alone t1) (by decide)
    · obtain ⟨_, _, cs', hB'⟩ := t2.typed i hi
      exact absurd (hB.alone hB') (by decide))
  rw [HSZ.out] at o4
  have HF : Hid (Sent nb base n c A s rest evs 17 bs w (.returned (.tuple #[])) w4) := hid (by
    refine ⟨rfl, A2, c2, X, d, by rw [HSN.out]; exact h1, h2, o4, hKK⟩)
  clear t4 o4
  clear h1 h2 h3 t1 t2 T3 T4 hKK
  go_wp2_with fail
  go_end0
  exact HF.out
set_option maxRecDepth 20000 in
set_option maxHeartbeats 8000000 in
theorem n_send200 (nb base n c cap : Nat) (A B : Option Addr) (s : Int) (vs : List Int) (rest : List Value) (evs : List (List Value)) (w : World) (hs : 0 ≤ s ∧ s ≤ 10000) (hN : Blk w nb 106 (.int .i64 1 :: .int .i64 1 :: .int .i64 s :: .slice A n c :: rest).toArray) (hO : OTab 123 w base 75 A n c evs) (hb : base ≤ w.heap.size) (hn : n ≤ 10000) (hv : Row .i64 w w.heap.size B 5 vs) (hk : ∀ j, j < 5 → VK (fs200[j]?.getD (0, false)).1 (fs200[j]?.getD (0, false)).2 ((wireP ss200 vs)[j]?.getD 0)) :
    Calls Tryz.prog 52 #[.pointer (some ⟨nb, 0, none⟩), .int .i64 200, .slice B 5 cap] w (Sent nb base n c A s rest evs 22 (pkt200 (s % 256) vs) w) := by
  obtain ⟨sq, hsq⟩ : ∃ sq, s % 256 = sq := ⟨_, rfl⟩
  have hu8 : U8 sq := by unfold U8; omega
  have HA := hid ((and255 s (by omega)).trans hsq)
  rw [hsq]
  have HSP := hid fun w (h : Row .i64 w w.heap.size B 5 vs) => t_Put200 sq B cap vs w hu8 h hk
  have hsq2 := hid hsq
  clear hsq hk
  obtain ⟨sn, hsn⟩ : ∃ sn, s + 1 = sn := ⟨_, rfl⟩
  have us : IntKind.i64.wrap (s + 1) = sn := (IntWalk.i64_in _ (by omega)).trans hsn
  have HSN := hid hsn
  clear hsn
  have hand := HA.out
  have hK := Kept.refl (PT1 nb (.slice A n c)) w
  go_enter Tryz.func52, Tryz.ntmps52
  go_upto_region 0 with fail
  refine wp_region_held_drew (S := (fun w' : World => w'.cell? ⟨nb, 0, none⟩ = some (.int .i64 1) ∧ w'.cell? ⟨nb, 1, none⟩ = some (.int .i64 1) ∧ w'.cell? ⟨nb, 2, none⟩ = some (.int .i64 s))) (by kernel_rfl) ⟨hN.cell 0, hN.cell 1, hN.cell 2⟩ (fun hHeld => ?_)
  refine (show wpAnyH _ _ _ _ _ 23 _ _ _ from ?_)
  try (simp only [Act.put, List.setIfInBounds_toArray, List.set_cons_zero, List.set_cons_succ])
  replace hN := hN.drew
  replace hO := hO.drew
  replace hv := hv.drew
  replace hK := hK.drew
  have hsz : w.drew.heap.size = w.heap.size := rfl
  rw [← hsz] at hv hb
  have HSZ := hid hsz
  clear hsz
  generalize w.drew = V0 at *
  refine tk 0 hHeld ?_
  refine tk 1 hHeld ?_
  refine tk 2 hHeld ?_
  refine tk 3 hHeld ?_
  refine tk 4 hHeld ?_
  refine tk 5 hHeld ?_
  refine tk 6 hHeld ?_
  refine tk 7 hHeld ?_
  refine tk 8 hHeld ?_
  refine tk 9 hHeld ?_
  refine tk 10 hHeld ?_
  refine tk 11 hHeld ?_
  refine tk 12 hHeld ?_
  refine tk 13 hHeld ?_
  refine tk 14 hHeld ?_
  refine tk 15 hHeld ?_
  refine tk 16 hHeld ?_
  refine rd1 17 (fun KK hKK => ?_)
  go_simp
  try go_wp2_with fail
  refine (HSP.out V0 hv).mono ?_
  intro e w2 hp
  obtain ⟨X, d, rfl, o1, b1⟩ := hp.to 22 (pkt_len200 sq vs)
  clear hp hv
  replace hN := hN.below b1 hN.lt
  replace hO := hO.below b1 (Nat.le_refl _)
  replace hK := hK.trans (Kept.of_below b1)
  have hb2 := Nat.le_trans hb b1.size
  have hsz := b1.size
  generalize pkt200 sq vs = bs at *
  clear b1
  refine hKK.out _ _ ⟨hN.cell 0, hN.cell 1, hN.cell 2⟩ (fun hHeld => ?_)
  clear hKK KK
  try (simp only [Act.put, List.setIfInBounds_toArray, List.set_cons_zero, List.set_cons_succ])
  refine tk 18 hHeld ?_
  refine tk 19 hHeld ?_
  refine tk 20 hHeld ?_
  refine rd1 21 (fun KK hKK => ?_)
  go_simp
  try go_wp2_with fail
  refine hKK.out _ _ ⟨hN.cell 0, hN.cell 1, hN.cell 2⟩ (fun hHeld => ?_)
  clear hKK KK
  try (simp only [Act.put, List.setIfInBounds_toArray, List.set_cons_zero, List.set_cons_succ])
  refine rd1 22 (fun KK hKK => ?_)
  go_simp
  try go_wp2_with fail
  refine hKK.out _ _ ⟨hN.cell 0, hN.cell 1, hN.cell 2⟩ (fun hHeld => ?_)
  clear hKK KK
  try (simp only [Act.put, List.setIfInBounds_toArray, List.set_cons_zero, List.set_cons_succ])
  refine wpAnyH_done (by kernel_rfl) ?_ _
  clear hHeld
  have q2 : w2.cell? ⟨nb, 2, none⟩ = some (.int .i64 s) := hN.cell 2
  have z2 := hN.frozen 2
  go_wp2_with fail
  rw [evIs]
  have t1 := hN.set_ 2 (.int .i64 sn)
  simp only [List.setIfInBounds_toArray, List.set_cons_zero, List.set_cons_succ] at t1
  have t2 := hO.kept (only_set (World.grownBy.refl w2 (some nb)) 2 (.int .i64 sn)) (Or.inr (Ne.symm (hO.ne_ hN (by decide))))
  have t4 := o1.kept (only_set (World.grownBy.refl w2 (some nb)) 2 (.int .i64 sn)) (Or.inr (Ne.symm (o1.ne_ hN (by decide))))
  have t3 := hK.set_ (p := ⟨nb, 2, none⟩) (Or.inl (Or.inl rfl)) (.int .i64 sn)
  have hb3 : base ≤ (w2.setCell ⟨nb, 2, none⟩ (.int .i64 sn)).heap.size := by rw [World.size_setCell]; exact hb2
  have T3 := hid t3
  have T4 := hid t4
  clear o1 hO hN hK t3 t4 q2 z2
  generalize w2.setCell ⟨nb, 2, none⟩ (.int .i64 sn) = w3 at *
  refine (n_tell nb base n c A (.slice X 22 d) _ _ _ rest evs w3 rfl t1 t2 hb3 hn).mono ?_
  rintro e w4 ⟨rfl, A2, c2, h1, h2, h3⟩
  have hKK := T3.out.trans h3
  have t4 := T4.out
  have o4 : Own .u8 w4 V0.heap.size 5 X 22 d bs := t4.keptP h3 (by
    rintro i cs (rfl | hi) hB
    · exact absurd (hB.alone t1) (by decide)
    · obtain ⟨_, _, cs', hB'⟩ := t2.typed i hi
      exact absurd (hB.alone hB') (by decide))
  rw [HSZ.out] at o4
  have HF : Hid (Sent nb base n c A s rest evs 22 bs w (.returned (.tuple #[])) w4) := hid (by
    refine ⟨rfl, A2, c2, X, d, by rw [HSN.out]; exact h1, h2, o4, hKK⟩)
  clear t4 o4
  clear h1 h2 h3 t1 t2 T3 T4 hKK
  go_wp2_with fail
  go_end0
  exact HF.out
end Go.Proofs.YtldoocndhfgjhaaGreat
