/- Chapter 06: FletchOne: the plain law, and the walk. -/
import Derived.Test.YtmimnefjeidedaaFletchD
import Derived.Test.YtmimnefjeidedaaOwn
namespace Go.Proofs.Ytmimnefjeidedaa
open Go.RowKit

/-! ### The plain law -/
theorem sumP_set (xs : List Int) (i : Nat) (v : Int) (h : i < xs.length) : sumP (xs.set i v) = sumP xs + (v - xs[i]?.getD 0) := by
  induction xs generalizing i with
  | nil => simp at h
  | cons c r ih =>
    cases i with
    | zero => simp [sumP]; omega
    | succ i => simp at h; simp only [List.set_cons_succ, sumP, List.getElem?_cons_succ]; rw [ih i h]; omega
theorem twoP_set (xs : List Int) (i : Nat) (v : Int) (h : i < xs.length) : twoP (xs.set i v) = twoP xs + ((xs.length : Int) - i) * (v - xs[i]?.getD 0) := by
  induction xs generalizing i with
  | nil => simp at h
  | cons c r ih =>
    cases i with
    | zero => simp [twoP]; grind
    | succ i =>
      simp at h
      simp only [List.set_cons_succ, twoP, List.getElem?_cons_succ, List.length_cons, List.length_set]
      rw [ih i h]
      have : ((r.length + 1 : Nat) : Int) - ((i + 1 : Nat) : Int) = (r.length : Int) - i := by omega
      rw [this]; omega

theorem sealP_len (xs : List Int) : (sealP xs).length = xs.length + 2 := by simp [sealP]
theorem openB_seal (xs : List Int) : openB (sealP xs) = true := by
  rw [openB_is (sealP_len xs)]
  simp [sealP]
theorem openP_seal (xs : List Int) : openP (sealP xs) = xs := by
  rw [openP_yes (sealP_len xs) (openB_seal xs)]
  simp [sealP]

/-- What the seal of some bytes comes to where a byte is made another one. -/
theorem openB_app (ys : List Int) (p q : Int) : openB (ys ++ [p, q]) = decide (p = sumP ys % 256 ∧ q = twoP ys % 256) := by
  have hl : (ys ++ [p, q]).length = ys.length + 2 := by simp
  rw [openB_is hl]
  have ht : (ys ++ [p, q]).take ys.length = ys := by simp
  rw [ht]
  unfold sealP
  rw [decide_eq_decide]
  constructor
  · intro h
    have := List.append_cancel_left h
    simp at this
    exact ⟨this.1.symm, this.2.symm⟩
  · rintro ⟨h1, h2⟩; rw [← h1, ← h2]

theorem one_changed (xs : List Int) (hx : Bytes xs) (i : Nat) (by_ : Int) (hb : 0 ≤ by_ ∧ by_ ≤ 255) (h : i < xs.length + 2) :
    openB ((sealP xs).set i (((sealP xs)[i]?.getD 0 + by_) % 256)) = decide (by_ = 0) := by
  unfold sealP
  have h0 := hx.at_ i
  rcases Nat.lt_or_ge i xs.length with h1 | h1
  · rw [List.set_append_left _ _ h1, openB_app, List.getElem?_append_left h1, sumP_set _ _ _ h1, twoP_set _ _ _ h1]
    generalize xs[i]?.getD 0 = c at *
    generalize sumP xs = s
    rw [decide_eq_decide]
    constructor
    · rintro ⟨e1, _⟩; omega
    · rintro rfl
      have : (c + 0) % 256 = c := by omega
      rw [this]; simp
  · obtain ⟨k, rfl⟩ : ∃ k, i = xs.length + k := ⟨i - xs.length, by omega⟩
    rw [List.set_append_right _ _ (by omega), List.getElem?_append_right (by omega)]
    have e : xs.length + k - xs.length = k := by omega
    rw [e]
    have hk : k = 0 ∨ k = 1 := by omega
    rcases hk with rfl | rfl
    · simp only [List.set_cons_zero, openB_app]
      rw [decide_eq_decide]
      simp
      omega
    · simp only [List.set_cons_succ, List.set_cons_zero, openB_app]
      rw [decide_eq_decide]
      simp
      omega

theorem two_changed (xs : List Int) (hx : Bytes xs) (i : Nat) (h : i + 1 < xs.length + 2) :
    openB (((sealP xs).set i ((sealP xs)[i + 1]?.getD 0)).set (i + 1) ((sealP xs)[i]?.getD 0)) = decide ((sealP xs)[i]?.getD 0 = (sealP xs)[i + 1]?.getD 0) := by
  unfold sealP
  have h0 := hx.at_ i
  have h0' := hx.at_ (i + 1)
  rcases Nat.lt_or_ge (i + 1) xs.length with h1 | h1
  · have h1' : i < xs.length := by omega
    rw [List.set_append_left _ _ h1', List.set_append_left _ _ (by simpa using h1), openB_app, List.getElem?_append_left h1, List.getElem?_append_left h1',
      sumP_set _ _ _ (by simpa using h1), sumP_set _ _ _ h1', twoP_set _ _ _ (by simpa using h1), twoP_set _ _ _ h1']
    have e1 : (xs.set i (xs[i + 1]?.getD 0))[i + 1]?.getD 0 = xs[i + 1]?.getD 0 := by rw [List.getElem?_set_ne (by omega)]
    rw [e1]
    simp only [List.length_set]
    generalize xs[i]?.getD 0 = c at *
    generalize xs[i + 1]?.getD 0 = d at *
    generalize sumP xs = s
    generalize twoP xs = t
    have e2 : t + ((xs.length : Int) - (i : Int)) * (d - c) + ((xs.length : Int) - ((i + 1 : Nat) : Int)) * (c - d) = t + (d - c) := by
      have : ((i + 1 : Nat) : Int) = (i : Int) + 1 := by omega
      rw [this]; grind
    rw [e2, decide_eq_decide]
    omega
  · rcases Nat.lt_or_ge i xs.length with h2 | h2
    · -- the last byte and the first sum
      obtain ⟨n, hn⟩ : ∃ n, xs.length = n + 1 := ⟨xs.length - 1, by omega⟩
      obtain rfl : i = n := by omega
      have e1 : (xs ++ [sumP xs % 256, twoP xs % 256])[i + 1]?.getD 0 = sumP xs % 256 := by rw [← hn]; simp
      have e2 : (xs ++ [sumP xs % 256, twoP xs % 256])[i]?.getD 0 = xs[i]?.getD 0 := by rw [List.getElem?_append_left h2]
      rw [e1, e2, List.set_append_left _ _ h2, List.set_append_right _ _ (by simp; omega)]
      have e3 : i + 1 - (xs.set i (sumP xs % 256)).length = 0 := by simp; omega
      rw [e3, List.set_cons_zero, openB_app, sumP_set _ _ _ h2, twoP_set _ _ _ h2]
      have e4 : ((xs.length : Int) - (i : Int)) = 1 := by omega
      rw [e4]
      generalize xs[i]?.getD 0 = c at *
      generalize sumP xs = s
      generalize twoP xs = t
      rw [decide_eq_decide]
      omega
    · obtain rfl : i = xs.length := by omega
      have e1 : (xs ++ [sumP xs % 256, twoP xs % 256])[xs.length + 1]?.getD 0 = twoP xs % 256 := by simp
      have e2 : (xs ++ [sumP xs % 256, twoP xs % 256])[xs.length]?.getD 0 = sumP xs % 256 := by simp
      rw [e1, e2, List.set_append_right _ _ (by omega), List.set_append_right _ _ (by simp)]
      have e3 : xs.length - xs.length = 0 := by omega
      have e4 : xs.length + 1 - xs.length = 1 := by omega
      rw [e3, e4]
      simp only [List.set_cons_zero, List.set_cons_succ, openB_app]
      rw [decide_eq_decide]
      omega

/-! ### The walk -/
set_option maxRecDepth 100000 in
theorem fletchOne_walk (A : Option Addr) (n c : Nat) (xs : List Int) (at_ by_ : Int) (w : World) (h : In .u8 w A n c xs) (_hat : (Lit.int .i64 at_).wf = true) (hby : (Lit.int .u8 by_).wf = true) :
    Calls Try.prog 6 #[.slice A n c, .int .i64 at_, .int .u8 by_] w fun e w' => e = .returned (.bool true) ∧ Below w.heap.size w w' := by
  obtain ⟨hr, hm, hcap, hw⟩ := h
  unfold maxLen at hm
  by_cases g1 : 1000 < n
  · go_enter Try.func6, Try.ntmps6
    go_wp2_with (go_at_call 15; refine (fl_knows _).mono ?_; rintro e w' ⟨rfl, hb⟩)
    go_ret
    exact ⟨rfl, hb⟩
  have d1 : decide ((1000 : Int) < n) = false := by simp; omega
  have HB := hid (bytes_of hw)
  clear hw
  obtain ⟨i0, hi, hz, hz1, hz2⟩ := info_parts info8
  have H1 := hid (openB_seal xs)
  have H2 := hid (openP_seal xs)
  go_enter Try.func6, Try.ntmps6
  go_wp2_with fail
  refine (fl_knows _).mono ?_
  rintro e w1 ⟨rfl, b1⟩
  go_wp2_with fail
  have r1 := (hr.below b1).more b1.size
  refine (fl_Seal A n c xs _ r1 (by omega)).mono ?_
  rintro e w2 ⟨A2, c2, rfl, r2, hc2, b2⟩
  have b2' := b1.trans (b2.mono b1.size)
  go_wp2_with fail
  refine (fl_Open A2 (n + 2) c2 (sealP xs) _ r2 (by omega) hc2).mono ?_
  rintro e w3 ⟨A3, c3, rfl, r3, b3⟩
  have b3' := b2'.trans (b3.mono b2'.size)
  rw [H2.out, hr.1] at r3
  rw [H1.out, H2.out, hr.1]
  have rs3 := (hr.below b3').more b3'.size
  have ra3 := (r2.below b3).more b3.size
  have kx := run_str r3 22 9 5 c3 Try.underlying22 Try.underlying5 Try.underlying9
  have ks := run_str rs3 22 9 5 c Try.underlying22 Try.underlying5 Try.underlying9
  have HL := hid hr.1
  clear b1 b2 b3 b2' r1 r2 r3 hr
  by_cases g2 : at_ < 0 ∨ (n : Int) + 2 ≤ at_
  · rcases g2 with g2 | g2
    · go_wp2
      go_ret
      exact ⟨rfl, b3'⟩
    · have g3 : decide (at_ < 0) = false := by simp; omega
      go_wp2
      go_ret
      exact ⟨rfl, b3'⟩
  obtain ⟨i, rfl⟩ : ∃ i : Nat, at_ = i := ⟨at_.toNat, by omega⟩
  have hi2 : i < n + 2 := by omega
  have g3 : decide (((i : Int)) < 0) = false := by simp
  have g4 : decide ((n : Int) + 2 ≤ (i : Int)) = false := by simp; omega
  clear g2 _hat
  have q0 : (0 : Int) ≤ (i : Int) := by omega
  have q1 : (i : Int) < (n : Int) + 2 := by omega
  have hbb := bounds_u8 hby
  have HONE := hid (one_changed xs HB.out i by_ hbb (by rw [HL.out]; exact hi2))
  go_wp2_with (first
    | (at_builtin; refine wpList_app rfl (.tmp 56) (.tmp 57) _ rfl w3.heap.size 5 i0 0 1 Try.underlying22 hi hz hz1 hz2 (some ⟨w3.heap.size, 0, none⟩) 0 0 [] rfl (Own.empty .u8 w3 _ (Nat.le_refl _)) (w3.heap.size) A2 (n + 2) c2 (sealP xs) rfl (ra3.alloc (Nat.le_refl _) _) (by unfold maxLen; omega) (by omega) (by simp) ?_; intro A4 c4 w4 ho4 hg4; simp only [Nat.zero_add, List.nil_append] at ho4; have b4 := own_below ((Below.refl w3.heap.size w3).alloc (Nat.le_refl _) _) (Own.empty .u8 w3 _ (Nat.le_refl _)) hg4 (by simp); have ra4 := ra3.below b4; clear ra3; obtain ⟨g, rfl, hg1, hg2⟩ := ho4.pos (by omega); have l4 := ho4.cell hi2; have f4 := ho4.free i))
  have ho5 := ho4.set_ i ((((sealP xs)[i]?.getD 0) + by_) % 256)
  have b5 := b4.setCell (p := ⟨g, i, none⟩) hg1 (.int .u8 ((((sealP xs)[i]?.getD 0) + by_) % 256))
  have ra5 := ra4.setCell (p := ⟨g, i, none⟩) hg1 (.int .u8 ((((sealP xs)[i]?.getD 0) + by_) % 256))
  have hcc := ho5.cap_
  clear ho4 ra4 b4 l4 f4 hg4 kx ks rs3
  refine (fl_Open _ (n + 2) c4 _ _ ho5.row (by omega) hcc).mono ?_
  clear ho5
  rintro e w6 ⟨A6, c6, rfl, r6, b6⟩
  rw [HONE.out, show decide (by_ = 0) = (by_ == 0) from by rw [Bool.eq_iff_iff]; simp]
  have b6' := b3'.trans ((b5.trans (b6.mono b5.size)).mono b3'.size)
  have ra6 := ra5.below (b6.mono b5.size)
  have s36 := Nat.le_trans b5.size b6.size
  generalize openP _ = ps at *
  clear b5 b6 ra5 r6
  by_cases hlast : i = n + 1
  · subst hlast
    have g5 : ((n : Int) + 1 + 1 == (n : Int) + 2) = true := by simp; omega
    have g6 : (((n : Int) + 1) + 1) = (n : Int) + 2 := by omega
    go_wp2
    go_ret
    exact ⟨rfl, b6'⟩
  · have g5 : ((i : Int) + 1 == (n : Int) + 2) = false := by simp; omega
    have hi3 : i + 1 < n + 2 := by omega
    have q3 : (0 : Int) ≤ (i : Int) + 1 := by omega
    have q4 : (i : Int) + 1 < (n : Int) + 2 := by omega
    have HTWO := hid (two_changed xs HB.out i (by rw [HL.out]; exact hi3))
    obtain ⟨ad, rfl, hadb, ca⟩ := ra6.at_ hi2
    obtain ⟨ad2, e2, _, cb⟩ := ra6.at_ hi3
    cases e2
    rw [add_succ] at cb
    go_wp2_with (first
      | (at_builtin; refine wpList_app rfl (.tmp 88) (.tmp 89) _ rfl w6.heap.size 5 i0 0 1 Try.underlying22 hi hz hz1 hz2 (some ⟨w6.heap.size, 0, none⟩) 0 0 [] rfl (Own.empty .u8 w6 _ (Nat.le_refl _)) (w6.heap.size) (some ad) (n + 2) c2 (sealP xs) rfl ((ra6.more s36).alloc (Nat.le_refl _) _) (by unfold maxLen; omega) (by omega) (by simp) ?_; intro A7 c7 w7 ho7 hg7; simp only [Nat.zero_add, List.nil_append] at ho7; have b7 := own_below ((Below.refl w6.heap.size w6).alloc (Nat.le_refl _) _) (Own.empty .u8 w6 _ (Nat.le_refl _)) hg7 (by simp); obtain ⟨g', rfl, hg1', hg2'⟩ := ho7.pos (by omega); have l7 := ho7.cell hi2; have f7 := ho7.free i; have l8 := ho7.cell hi3; have f8 := ho7.free (i + 1); have ca7 := (b7.cell (p := ad.add i) (by rw [add_block]; omega)).trans ca; have cb7 := (b7.cell (p := ⟨ad.block, ad.off + (i + 1), none⟩) (by show ad.block < _; omega)).trans cb; have ca8 := (World.cell?_setCell_other w7 ⟨g', i, none⟩ (ad.add i) (.int .u8 ((sealP xs)[i + 1]?.getD 0)) (fun e => by have := congrArg Addr.block e; rw [add_block] at this; simp at this; omega)).trans ca7))
    have ho8 := (ho7.set_ i ((sealP xs)[i + 1]?.getD 0)).set_ (i + 1) ((sealP xs)[i]?.getD 0)
    have b8 := (b7.setCell (p := ⟨g', i, none⟩) hg1' (.int .u8 ((sealP xs)[i + 1]?.getD 0))).setCell (p := ⟨g', i + 1, none⟩) hg1' (.int .u8 ((sealP xs)[i]?.getD 0))
    have s8 : ad.block < ((w7.setCell ⟨g', i, none⟩ (.int .u8 ((sealP xs)[i + 1]?.getD 0))).setCell ⟨g', i + 1, none⟩ (.int .u8 ((sealP xs)[i]?.getD 0))).heap.size := by have := b7.size; simp; omega
    have ca9 := far2 (i := i) (j := i + 1) (u := .int .u8 ((sealP xs)[i + 1]?.getD 0)) (v := .int .u8 ((sealP xs)[i]?.getD 0)) ca7 (g := g') (by rw [add_block]; omega)
    have cb9 := far2 (i := i) (j := i + 1) (u := .int .u8 ((sealP xs)[i + 1]?.getD 0)) (v := .int .u8 ((sealP xs)[i]?.getD 0)) cb7 (g := g') (by show ad.block ≠ g'; omega)
    have hcc := ho8.cap_
    clear ho7 l7 f7 l8 f8 ca7 cb7 ca8 hg7
    refine (fl_Open _ (n + 2) c7 _ _ ho8.row (by omega) hcc).mono ?_
    clear ho8
    rintro e w9 ⟨A9, c9, rfl, r9, b9⟩
    rw [HTWO.out]
    have ca10 := (b9.cell (p := ad.add i) (by rw [add_block]; exact s8)).trans ca9
    have cb10 := (b9.cell (p := ⟨ad.block, ad.off + (i + 1), none⟩) s8).trans cb9
    have b9' := b6'.trans ((b8.trans (b9.mono b8.size)).mono b6'.size)
    clear b8 b9 r9 ca9 cb9 b7 ca cb
    generalize (sealP xs)[i]?.getD 0 = x at *
    generalize (sealP xs)[i + 1]?.getD 0 = y at *
    rw [show decide (x = y) = (x == y) from by rw [Bool.eq_iff_iff]; simp]
    generalize openP _ = pt at *
    have q5 : IntKind.i64.wrap ((i : Int) + 1) = (i : Int) + 1 := IntWalk.i64_in _ (by omega)
    have q6 : ((i : Int) + 1).toNat = i + 1 := by omega
    go_wp2_with fail
    go_quiet (fail)
    go_wp2
    go_ret
    exact ⟨rfl, b9'.drewN' _⟩
end Go.Proofs.Ytmimnefjeidedaa
