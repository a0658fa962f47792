/- Chapter 42: samples that came in; the walk of FusePlays. -/
import Derived.Test.YtgmepohfkpncmaaGreatFuseM
namespace Go.Proofs.YtgmepohfkpncmaaGreat
open Go.RowKit
set_option linter.unusedVariables false
set_option linter.unusedSimpArgs false

theorem add_fld7 (ad : Addr) (i k : Nat) : ad.add (i + (k + 1)) = { block := (ad.add i).block, off := (ad.add i).off + (k + 1) } := by
 rw [← Nat.add_assoc, add_succ, add_block]
 unfold Addr.add
 split
 ·next h => subst h; simp
 ·simp [Nat.add_assoc]
def SamplesIn (w : World) (B : Nat) (A : Option Addr) (n : Nat) (sm : Nat → Nat → Int) : Prop :=
 (A = none → n = 0) ∧ ∀ ad, A = some ad → ∀ j, j < n → ad.block < B ∧ ∀ k, k < 7 → w.cell? (ad.add (j * 7 + k)) = some (.int .i32 (sm j k)) ∧ I32 (sm j k)
theorem SamplesIn.below {w w' : World} {B : Nat} {A : Option Addr} {n : Nat} {sm : Nat → Nat → Int} (h : SamplesIn w B A n sm) (hb : Below B w w') : SamplesIn w' B A n sm := by
 refine ⟨h.1, fun ad e j hj => ?_⟩
 obtain ⟨h1, h2⟩ := h.2 ad e j hj
 have q : ∀ i, w'.cell? (ad.add i) = w.cell? (ad.add i) := fun i => hb.cell (by rw [add_block]; exact h1)
 exact ⟨h1, fun k hk => by rw [q]; exact h2 k hk⟩
theorem SamplesIn.at_ {w : World} {B : Nat} {A : Option Addr} {n : Nat} {sm : Nat → Nat → Int} (h : SamplesIn w B A n sm) {j : Nat} (hj : j < n) : ∃ ad, A = some ad ∧ ad.block < B ∧ (w.cell? (ad.add (j * 7)) = some (.int .i32 (sm j 0)) ∧ w.cell? { block := (ad.add (j * 7)).block, off := (ad.add (j * 7)).off + 1 } = some (.int .i32 (sm j 1)) ∧ w.cell? { block := (ad.add (j * 7)).block, off := (ad.add (j * 7)).off + 2 } = some (.int .i32 (sm j 2)) ∧ w.cell? { block := (ad.add (j * 7)).block, off := (ad.add (j * 7)).off + 3 } = some (.int .i32 (sm j 3)) ∧ w.cell? { block := (ad.add (j * 7)).block, off := (ad.add (j * 7)).off + 4 } = some (.int .i32 (sm j 4)) ∧ w.cell? { block := (ad.add (j * 7)).block, off := (ad.add (j * 7)).off + 5 } = some (.int .i32 (sm j 5)) ∧ w.cell? { block := (ad.add (j * 7)).block, off := (ad.add (j * 7)).off + 6 } = some (.int .i32 (sm j 6))) ∧ (I32 (sm j 0) ∧ I32 (sm j 1) ∧ I32 (sm j 2) ∧ I32 (sm j 3) ∧ I32 (sm j 4) ∧ I32 (sm j 5) ∧ I32 (sm j 6)) := by
 rcases A with _ | ad
 ·have := h.1 rfl; omega
 ·obtain ⟨h1, h2⟩ := h.2 ad rfl j hj
  have c0 := (h2 0 (by omega)).1
  have c1 := (h2 1 (by omega)).1
  rw [add_fld7 ad (j * 7) 0] at c1
  have c2 := (h2 2 (by omega)).1
  rw [add_fld7 ad (j * 7) 1] at c2
  have c3 := (h2 3 (by omega)).1
  rw [add_fld7 ad (j * 7) 2] at c3
  have c4 := (h2 4 (by omega)).1
  rw [add_fld7 ad (j * 7) 3] at c4
  have c5 := (h2 5 (by omega)).1
  rw [add_fld7 ad (j * 7) 4] at c5
  have c6 := (h2 6 (by omega)).1
  rw [add_fld7 ad (j * 7) 5] at c6
  exact ⟨ad, rfl, h1, ⟨c0, c1, c2, c3, c4, c5, c6⟩, (h2 0 (by omega)).2, (h2 1 (by omega)).2, (h2 2 (by omega)).2, (h2 3 (by omega)).2, (h2 4 (by omega)).2, (h2 5 (by omega)).2, (h2 6 (by omega)).2⟩
theorem SamplesIn.cells_ {w : World} {B : Nat} {ad : Addr} {n : Nat} {sm : Nat → Nat → Int} (h : SamplesIn w B (some ad) n sm) {j : Nat} (hj : j < n) : w.cell? (ad.add (j * 7)) = some (.int .i32 (sm j 0)) ∧ w.cell? { block := (ad.add (j * 7)).block, off := (ad.add (j * 7)).off + 1 } = some (.int .i32 (sm j 1)) ∧ w.cell? { block := (ad.add (j * 7)).block, off := (ad.add (j * 7)).off + 2 } = some (.int .i32 (sm j 2)) ∧ w.cell? { block := (ad.add (j * 7)).block, off := (ad.add (j * 7)).off + 3 } = some (.int .i32 (sm j 3)) ∧ w.cell? { block := (ad.add (j * 7)).block, off := (ad.add (j * 7)).off + 4 } = some (.int .i32 (sm j 4)) ∧ w.cell? { block := (ad.add (j * 7)).block, off := (ad.add (j * 7)).off + 5 } = some (.int .i32 (sm j 5)) ∧ w.cell? { block := (ad.add (j * 7)).block, off := (ad.add (j * 7)).off + 6 } = some (.int .i32 (sm j 6)) := by
 obtain ⟨ad', e, _, hc, _⟩ := h.at_ hj
 cases e
 exact hc
theorem plays_round (j : Nat) (c q0 q1 q2 q3 b0 b1 b2 s0 s1 s2 s3 s4 s5 s6 : Int) (hj : j < 100) (iq0 : I32 q0) (iq1 : I32 q1) (iq2 : I32 q2) (iq3 : I32 q3) (ib0 : I32 b0) (ib1 : I32 b1) (ib2 : I32 b2) (is0 : I32 s0) (is1 : I32 s1) (is2 : I32 s2) (is3 : I32 s3) (is4 : I32 s4) (is5 : I32 s5) (is6 : I32 s6) (hc : 0 ≤ c ∧ c ≤ 29 * (j : Int)) :
  ∃ t0 t1 t2 t3 k0 k1 k2 c2 n2 P : Int, Hid (∀ w, Calls Tryz.prog 10 #[.agg #[.int .i32 q0, .int .i32 q1, .int .i32 q2, .int .i32 q3, .int .i32 b0, .int .i32 b1, .int .i32 b2, .int .i64 (j : Int), .int .i64 c], .agg #[.int .i32 s0, .int .i32 s1, .int .i32 s2], .agg #[.int .i32 s3, .int .i32 s4, .int .i32 s5], .int .i32 s6] w fun e w' => e = .returned (.agg #[.int .i32 t0, .int .i32 t1, .int .i32 t2, .int .i32 t3, .int .i32 k0, .int .i32 k1, .int .i32 k2, .int .i64 n2, .int .i64 c2]) ∧ Below w.heap.size w w') ∧ Hid (∀ w, Calls Tryz.prog 11 #[.agg #[.int .i32 q0, .int .i32 q1, .int .i32 q2, .int .i32 q3, .int .i32 b0, .int .i32 b1, .int .i32 b2, .int .i64 (j : Int), .int .i64 c], .agg #[.int .i32 s0, .int .i32 s1, .int .i32 s2], .agg #[.int .i32 s3, .int .i32 s4, .int .i32 s5], .int .i32 s6] w fun e w' => e = .returned (.agg #[.int .i32 t0, .int .i32 t1, .int .i32 t2, .int .i32 t3, .int .i32 k0, .int .i32 k1, .int .i32 k2, .int .i64 n2, .int .i64 c2]) ∧ Below w.heap.size w w') ∧ Hid (∀ w, Calls Tryz.prog 9 #[.agg #[.int .i32 t0, .int .i32 t1, .int .i32 t2, .int .i32 t3, .int .i32 k0, .int .i32 k1, .int .i32 k2, .int .i64 n2, .int .i64 c2]] w fun e w' => e = .returned (.agg #[.int .i32 t0, .int .i32 t1, .int .i32 t2, .int .i32 t3, .int .i32 k0, .int .i32 k1, .int .i32 k2, .int .i64 n2, .int .i64 c2]) ∧ Below w.heap.size w w') ∧ Hid (∀ w, Calls Tryz.prog 12 #[.agg #[.int .i32 t0, .int .i32 t1, .int .i32 t2, .int .i32 t3, .int .i32 k0, .int .i32 k1, .int .i32 k2, .int .i64 n2, .int .i64 c2]] w fun e w' => e = .returned (.int .u32 P) ∧ Below w.heap.size w w') ∧ Hid (∀ w, Calls Tryz.prog 13 #[.agg #[.int .i32 t0, .int .i32 t1, .int .i32 t2, .int .i32 t3, .int .i32 k0, .int .i32 k1, .int .i32 k2, .int .i64 n2, .int .i64 c2]] w fun e w' => e = .returned (.int .u32 P) ∧ Below w.heap.size w w') ∧ Hid (I32 t0 ∧ I32 t1 ∧ I32 t2 ∧ I32 t3 ∧ I32 k0 ∧ I32 k1 ∧ I32 k2) ∧ Hid (0 ≤ c2 ∧ c2 ≤ 29 * ((j + 1 : Nat) : Int)) ∧ Hid (n2 = ((j + 1 : Nat) : Int)) := by
 have h1 := fun w => f_Step (j : Int) c q0 q1 q2 q3 b0 b1 b2 s0 s1 s2 s3 s4 s5 s6 w iq0 iq1 iq2 iq3 ib0 ib1 ib2 is0 is1 is2 is3 is4 is5 is6 ⟨by omega, by omega⟩ ⟨hc.1, by omega⟩
 have h2 := fun w => rf_Step (j : Int) c q0 q1 q2 q3 b0 b1 b2 s0 s1 s2 s3 s4 s5 s6 w iq0 iq1 iq2 iq3 ib0 ib1 ib2 is0 is1 is2 is3 is4 is5 is6 ⟨by omega, by omega⟩ ⟨hc.1, by omega⟩
 unfold Fused at h1 h2
 have ej : (j : Int) + 1 = ((j + 1 : Nat) : Int) := by omega
 rw [ej] at h1 h2
 have t0b : I32 (stepQ 0 1073741824 q0 q1 q2 q3 b0 b1 b2 s0 s1 s2 s3 s4 s5 s6) := step_32 0 _ q0 q1 q2 q3 b0 b1 b2 s0 s1 s2 s3 s4 s5 s6 (by unfold I32; omega)
 have t1b : I32 (stepQ 1 0 q0 q1 q2 q3 b0 b1 b2 s0 s1 s2 s3 s4 s5 s6) := step_32 1 _ q0 q1 q2 q3 b0 b1 b2 s0 s1 s2 s3 s4 s5 s6 (by unfold I32; omega)
 have t2b : I32 (stepQ 2 0 q0 q1 q2 q3 b0 b1 b2 s0 s1 s2 s3 s4 s5 s6) := step_32 2 _ q0 q1 q2 q3 b0 b1 b2 s0 s1 s2 s3 s4 s5 s6 (by unfold I32; omega)
 have t3b : I32 (stepQ 3 0 q0 q1 q2 q3 b0 b1 b2 s0 s1 s2 s3 s4 s5 s6) := step_32 3 _ q0 q1 q2 q3 b0 b1 b2 s0 s1 s2 s3 s4 s5 s6 (by unfold I32; omega)
 have k0b : I32 (stepB 0 q0 q1 q2 q3 b0 b1 b2 s0 s1 s2 s3 s4 s5 s6) := by have : -16384 ≤ stepB 0 q0 q1 q2 q3 b0 b1 b2 s0 s1 s2 s3 s4 s5 s6 ∧ stepB 0 q0 q1 q2 q3 b0 b1 b2 s0 s1 s2 s3 s4 s5 s6 ≤ 16384 := liP_bd _; unfold I32; omega
 have k1b : I32 (stepB 1 q0 q1 q2 q3 b0 b1 b2 s0 s1 s2 s3 s4 s5 s6) := by have : -16384 ≤ stepB 1 q0 q1 q2 q3 b0 b1 b2 s0 s1 s2 s3 s4 s5 s6 ∧ stepB 1 q0 q1 q2 q3 b0 b1 b2 s0 s1 s2 s3 s4 s5 s6 ≤ 16384 := liP_bd _; unfold I32; omega
 have k2b : I32 (stepB 2 q0 q1 q2 q3 b0 b1 b2 s0 s1 s2 s3 s4 s5 s6) := by have : -16384 ≤ stepB 2 q0 q1 q2 q3 b0 b1 b2 s0 s1 s2 s3 s4 s5 s6 ∧ stepB 2 q0 q1 q2 q3 b0 b1 b2 s0 s1 s2 s3 s4 s5 s6 ≤ 16384 := liP_bd _; unfold I32; omega
 have nb := stepN_bd q0 q1 q2 q3 b0 b1 b2 s0 s1 s2 s3 s4 s5 s6
 exact ⟨_, _, _, _, _, _, _, c + stepN q0 q1 q2 q3 b0 b1 b2 s0 s1 s2 s3 s4 s5 s6, ((j + 1 : Nat) : Int), worP (stepQ 0 1073741824 q0 q1 q2 q3 b0 b1 b2 s0 s1 s2 s3 s4 s5 s6) (stepQ 1 0 q0 q1 q2 q3 b0 b1 b2 s0 s1 s2 s3 s4 s5 s6) (stepQ 2 0 q0 q1 q2 q3 b0 b1 b2 s0 s1 s2 s3 s4 s5 s6) (stepQ 3 0 q0 q1 q2 q3 b0 b1 b2 s0 s1 s2 s3 s4 s5 s6), hid h1, hid h2, hid (fun w => f_own _ _ _ _ _ _ _ _ _ w), hid (fun w => f_WordP _ _ _ _ _ _ _ _ _ w t0b t1b t2b t3b), hid (fun w => rf_WordP _ _ _ _ _ _ _ _ _ w t0b t1b t2b t3b), hid ⟨t0b, t1b, t2b, t3b, k0b, k1b, k2b⟩, hid (by omega), hid rfl⟩
set_option maxRecDepth 20000 in
set_option maxHeartbeats 16000000 in
theorem fusePlays_walk (A : Option Addr) (N C0 : Nat) (sm : Nat → Nat → Int) (w : World) (h : SamplesIn w w.heap.size A N sm) :
  Calls Tryz.prog 4 #[.slice A N C0] w fun e w' => e = .returned (.bool true) ∧ Below w.heap.size w w' := by
 have HK := hid law42_knows
 by_cases hN : N ≤ 100
 case neg =>
  have e1 : decide ((100 : Int) < (N : Int)) = true := decide_eq_true (by omega)
  clear hN h
  go_enter Tryz.func4, Tryz.ntmps4
  go_wp2_with fail
  refine (HK.out _).mono ?_
  rintro e w1 ⟨rfl, b1⟩
  go_wp2
  go_ret
  exact ⟨rfl, b1⟩
 have e1 : decide ((100 : Int) < (N : Int)) = false := decide_eq_false (by omega)
 go_enter Tryz.func4, Tryz.ntmps4
 go_wp2_with fail
 refine (HK.out _).mono ?_
 rintro e w1 ⟨rfl, hb⟩
 clear HK
 go_wp2_with fail
 refine (f_Start _).mono ?_
 rintro e w2 ⟨rfl, bb⟩
 replace hb := f_on hb bb
 clear bb
 have lb := hb.size
 have hs := Blk.new w2 34 #[.int .i32 1073741824, .int .i32 0, .int .i32 0, .int .i32 0, .int .i32 0, .int .i32 0, .int .i32 0, .int .i64 0, .int .i64 0]
 replace hb := hb.alloc hb.size (.cells #[.int .i32 1073741824, .int .i32 0, .int .i32 0, .int .i32 0, .int .i32 0, .int .i32 0, .int .i32 0, .int .i64 0, .int .i64 0] 34)
 go_upto_region 4 with fail
 generalize w2.alloc (.cells #[.int .i32 1073741824, .int .i32 0, .int .i32 0, .int .i32 0, .int .i32 0, .int .i32 0, .int .i32 0, .int .i64 0, .int .i64 0] 34) = W2 at *
 generalize w2.heap.size = gs at *
 go_wp2_with fail
 refine (rf_Start _).mono ?_
 rintro e w3 ⟨rfl, bb⟩
 replace hs := hs.below bb hs.lt
 replace hb := f_on hb bb
 clear bb
 have lb2 := hb.size
 have ls := hs.lt
 replace hs := hs.alloc (.cells #[.int .i32 1073741824, .int .i32 0, .int .i32 0, .int .i32 0, .int .i32 0, .int .i32 0, .int .i32 0, .int .i64 0, .int .i64 0] 27)
 have hr := Blk.new w3 27 #[.int .i32 1073741824, .int .i32 0, .int .i32 0, .int .i32 0, .int .i32 0, .int .i32 0, .int .i32 0, .int .i64 0, .int .i64 0]
 replace hb := hb.alloc hb.size (.cells #[.int .i32 1073741824, .int .i32 0, .int .i32 0, .int .i32 0, .int .i32 0, .int .i32 0, .int .i32 0, .int .i64 0, .int .i64 0] 27)
 go_upto_region 5 with fail
 generalize w3.alloc (.cells #[.int .i32 1073741824, .int .i32 0, .int .i32 0, .int .i32 0, .int .i32 0, .int .i32 0, .int .i32 0, .int .i64 0, .int .i64 0] 27) = W3 at *
 generalize w3.heap.size = gr at *
 go_wp2_with fail
 go_loopw [5] (fun i wr => ∃ (j : Nat) (q0 q1 q2 q3 b0 b1 b2 c : Int), j ≤ N ∧ i = .int .i64 j ∧ (I32 q0 ∧ I32 q1 ∧ I32 q2 ∧ I32 q3 ∧ I32 b0 ∧ I32 b1 ∧ I32 b2) ∧ (0 ≤ c ∧ c ≤ 29 * (j : Int)) ∧ Blk wr gs 34 #[.int .i32 q0, .int .i32 q1, .int .i32 q2, .int .i32 q3, .int .i32 b0, .int .i32 b1, .int .i32 b2, .int .i64 (j : Int), .int .i64 c] ∧ Blk wr gr 27 #[.int .i32 q0, .int .i32 q1, .int .i32 q2, .int .i32 q3, .int .i32 b0, .int .i32 b1, .int .i32 b2, .int .i64 (j : Int), .int .i64 c] ∧ Below w.heap.size w wr) (fun i _ => N - (intOf i).toNat)
 case atStart =>
  have z : I32 0 := by unfold I32; omega
  exact ⟨0, 1073741824, 0, 0, 0, 0, 0, 0, 0, by omega, rfl, ⟨by unfold I32; omega, z, z, z, z, z, z⟩, by omega, hs, hr, hb⟩
 case round =>
  clear hs hr hb e1
  obtain ⟨j, q0, q1, q2, q3, b0, b1, b2, c, hj, rfl, ⟨iq0, iq1, iq2, iq3, ib0, ib1, ib2⟩, hc, hs, hr, hb⟩ := hrel
  by_cases hlt : j < N
  ·have hlt' : (j : Int) < (N : Int) := by omega
   have j0 : (0 : Int) ≤ (j : Int) := by omega
   have uj : IntKind.i64.wrap ((j : Int) + 1) = ((j + 1 : Nat) : Int) := (IntWalk.i64_in _ (by omega)).trans (by omega)
   have mj : N - (j + 1) < N - j := by omega
   obtain ⟨ad, rfl, hab, _, s0, s1, s2, s3, s4, s5, s6⟩ := (h.below hb).at_ hlt
   obtain ⟨t0, t1, t2, t3, k0, k1, k2, c2, n2, P, H1, H2, H3, H4, H5, hI, HC2, HN2⟩ := plays_round j c q0 q1 q2 q3 b0 b1 b2 (sm j 0) (sm j 1) (sm j 2) (sm j 3) (sm j 4) (sm j 5) (sm j 6) (by omega) iq0 iq1 iq2 iq3 ib0 ib1 ib2 s0 s1 s2 s3 s4 s5 s6 hc
   have HSm := hid h
   clear h hc s0 s1 s2 s3 s4 s5 s6 iq0 iq1 iq2 iq3 ib0 ib1 ib2
   go_upto_region 8 with fail
   refine wp_region_noPanic ?_
   refine wp_region_held_drew (S := (fun w' : World => w'.cell? (ad.add (j * 7)) = some (.int .i32 (sm j 0)) ∧ w'.cell? { block := (ad.add (j * 7)).block, off := (ad.add (j * 7)).off + 1 } = some (.int .i32 (sm j 1)) ∧ w'.cell? { block := (ad.add (j * 7)).block, off := (ad.add (j * 7)).off + 2 } = some (.int .i32 (sm j 2)) ∧ w'.cell? { block := (ad.add (j * 7)).block, off := (ad.add (j * 7)).off + 3 } = some (.int .i32 (sm j 3)) ∧ w'.cell? { block := (ad.add (j * 7)).block, off := (ad.add (j * 7)).off + 4 } = some (.int .i32 (sm j 4)) ∧ w'.cell? { block := (ad.add (j * 7)).block, off := (ad.add (j * 7)).off + 5 } = some (.int .i32 (sm j 5)) ∧ w'.cell? { block := (ad.add (j * 7)).block, off := (ad.add (j * 7)).off + 6 } = some (.int .i32 (sm j 6)))) (by kernel_rfl) ((HSm.out.below hb).cells_ hlt) (fun hH => ?_)
   refine (show wpAnyH _ _ _ _ _ 18 _ _ _ from ?_)
   try (simp only [Act.put, List.setIfInBounds_toArray, List.set_cons_zero, List.set_cons_succ])
   replace hs := hs.drew
   replace hr := hr.drew
   replace hb := hb.drew
   generalize (wr).drew = Vaa at *
   refine tk 1 hH ?_
   refine tk 2 hH ?_
   refine tk 3 hH ?_
   refine tk 4 hH ?_
   refine tk 5 hH ?_
   refine tk 6 hH ?_
   refine tk 7 hH ?_
   refine tk 8 hH ?_
   refine tk 9 hH ?_
   refine tk 10 hH ?_
   refine tk 11 hH ?_
   refine tk 12 hH ?_
   refine tk 13 hH ?_
   refine tk 14 hH ?_
   refine tk 15 hH ?_
   refine rd1 0 (fun K hK => ?_)
   have cc0 : Vaa.cell? ⟨gs, 0, none⟩ = some (.int .i32 q0) := hs.cell 0
   have cc1 : Vaa.cell? ⟨gs, 1, none⟩ = some (.int .i32 q1) := hs.cell 1
   have cc2 : Vaa.cell? ⟨gs, 2, none⟩ = some (.int .i32 q2) := hs.cell 2
   have cc3 : Vaa.cell? ⟨gs, 3, none⟩ = some (.int .i32 q3) := hs.cell 3
   have cc4 : Vaa.cell? ⟨gs, 4, none⟩ = some (.int .i32 b0) := hs.cell 4
   have cc5 : Vaa.cell? ⟨gs, 5, none⟩ = some (.int .i32 b1) := hs.cell 5
   have cc6 : Vaa.cell? ⟨gs, 6, none⟩ = some (.int .i32 b2) := hs.cell 6
   have cc7 : Vaa.cell? ⟨gs, 7, none⟩ = some (.int .i64 (j : Int)) := hs.cell 7
   have cc8 : Vaa.cell? ⟨gs, 8, none⟩ = some (.int .i64 c) := hs.cell 8
   go_simp
   try go_wp2_with fail
   clear cc0 cc1 cc2 cc3 cc4 cc5 cc6 cc7 cc8
   refine hK.out _ _ ((HSm.out.below hb).cells_ hlt) (fun hH => ?_)
   clear hK K
   try (simp only [Act.put, List.setIfInBounds_toArray, List.set_cons_zero, List.set_cons_succ])
   refine rd1 16 (fun K hK => ?_)
   go_simp
   refine (H1.out _).mono ?_
   rintro e Vab ⟨rfl, bb⟩
   go_wp2_with fail
   replace hs := hs.below bb hs.lt
   replace hr := hr.below bb hr.lt
   replace hb := f_on hb bb
   clear bb
   refine hK.out _ _ ((HSm.out.below hb).cells_ hlt) (fun hH => ?_)
   clear hK K
   try (simp only [Act.put, List.setIfInBounds_toArray, List.set_cons_zero, List.set_cons_succ])
   refine rd1 17 (fun K hK => ?_)
   have cc0 : Vab.cell? ⟨gs, 0, none⟩ = some (.int .i32 q0) := hs.cell 0
   have zz0 := hs.frozen 0
   have cc1 : Vab.cell? ⟨gs, 1, none⟩ = some (.int .i32 q1) := hs.cell 1
   have zz1 := hs.frozen 1
   have cc2 : Vab.cell? ⟨gs, 2, none⟩ = some (.int .i32 q2) := hs.cell 2
   have zz2 := hs.frozen 2
   have cc3 : Vab.cell? ⟨gs, 3, none⟩ = some (.int .i32 q3) := hs.cell 3
   have zz3 := hs.frozen 3
   have cc4 : Vab.cell? ⟨gs, 4, none⟩ = some (.int .i32 b0) := hs.cell 4
   have zz4 := hs.frozen 4
   have cc5 : Vab.cell? ⟨gs, 5, none⟩ = some (.int .i32 b1) := hs.cell 5
   have zz5 := hs.frozen 5
   have cc6 : Vab.cell? ⟨gs, 6, none⟩ = some (.int .i32 b2) := hs.cell 6
   have zz6 := hs.frozen 6
   have cc7 : Vab.cell? ⟨gs, 7, none⟩ = some (.int .i64 (j : Int)) := hs.cell 7
   have zz7 := hs.frozen 7
   have cc8 : Vab.cell? ⟨gs, 8, none⟩ = some (.int .i64 c) := hs.cell 8
   have zz8 := hs.frozen 8
   go_simp
   try go_wp2_with fail
   clear cc0 zz0 cc1 zz1 cc2 zz2 cc3 zz3 cc4 zz4 cc5 zz5 cc6 zz6 cc7 zz7 cc8 zz8
   have hs2 := (((((((((hs.set_ 0 (.int .i32 t0)).set_ 1 (.int .i32 t1)).set_ 2 (.int .i32 t2)).set_ 3 (.int .i32 t3)).set_ 4 (.int .i32 k0)).set_ 5 (.int .i32 k1)).set_ 6 (.int .i32 k2)).set_ 7 (.int .i64 n2)).set_ 8 (.int .i64 c2))
   simp only [List.setIfInBounds_toArray, List.set_cons_zero, List.set_cons_succ] at hs2
   replace hr := (((((((((hr.fr gs 0 (by omega) (.int .i32 t0)).fr gs 1 (by omega) (.int .i32 t1)).fr gs 2 (by omega) (.int .i32 t2)).fr gs 3 (by omega) (.int .i32 t3)).fr gs 4 (by omega) (.int .i32 k0)).fr gs 5 (by omega) (.int .i32 k1)).fr gs 6 (by omega) (.int .i32 k2)).fr gs 7 (by omega) (.int .i64 n2)).fr gs 8 (by omega) (.int .i64 c2))
   replace hb := (((((((((hb.sc gs 0 (by omega) (.int .i32 t0)).sc gs 1 (by omega) (.int .i32 t1)).sc gs 2 (by omega) (.int .i32 t2)).sc gs 3 (by omega) (.int .i32 t3)).sc gs 4 (by omega) (.int .i32 k0)).sc gs 5 (by omega) (.int .i32 k1)).sc gs 6 (by omega) (.int .i32 k2)).sc gs 7 (by omega) (.int .i64 n2)).sc gs 8 (by omega) (.int .i64 c2))
   clear hs
   have hs := hs2
   clear hs2
   generalize (((((((((Vab.setCell ⟨gs, 0, none⟩ (.int .i32 t0)).setCell ⟨gs, 1, none⟩ (.int .i32 t1)).setCell ⟨gs, 2, none⟩ (.int .i32 t2)).setCell ⟨gs, 3, none⟩ (.int .i32 t3)).setCell ⟨gs, 4, none⟩ (.int .i32 k0)).setCell ⟨gs, 5, none⟩ (.int .i32 k1)).setCell ⟨gs, 6, none⟩ (.int .i32 k2)).setCell ⟨gs, 7, none⟩ (.int .i64 n2)).setCell ⟨gs, 8, none⟩ (.int .i64 c2)) = Vac at *
   refine hK.out _ _ ((HSm.out.below hb).cells_ hlt) (fun hH => ?_)
   clear hK K
   try (simp only [Act.put, List.setIfInBounds_toArray, List.set_cons_zero, List.set_cons_succ])
   refine wpAnyH_done (by kernel_rfl) ?_ _
   refine NoPanic.normal ?_
   clear hH
   go_upto_region 9 with fail
   refine wp_region_noPanic ?_
   refine wp_region_held_drew (S := (fun w' : World => w'.cell? (ad.add (j * 7)) = some (.int .i32 (sm j 0)) ∧ w'.cell? { block := (ad.add (j * 7)).block, off := (ad.add (j * 7)).off + 1 } = some (.int .i32 (sm j 1)) ∧ w'.cell? { block := (ad.add (j * 7)).block, off := (ad.add (j * 7)).off + 2 } = some (.int .i32 (sm j 2)) ∧ w'.cell? { block := (ad.add (j * 7)).block, off := (ad.add (j * 7)).off + 3 } = some (.int .i32 (sm j 3)) ∧ w'.cell? { block := (ad.add (j * 7)).block, off := (ad.add (j * 7)).off + 4 } = some (.int .i32 (sm j 4)) ∧ w'.cell? { block := (ad.add (j * 7)).block, off := (ad.add (j * 7)).off + 5 } = some (.int .i32 (sm j 5)) ∧ w'.cell? { block := (ad.add (j * 7)).block, off := (ad.add (j * 7)).off + 6 } = some (.int .i32 (sm j 6)))) (by kernel_rfl) ((HSm.out.below hb).cells_ hlt) (fun hH => ?_)
   refine (show wpAnyH _ _ _ _ _ 18 _ _ _ from ?_)
   try (simp only [Act.put, List.setIfInBounds_toArray, List.set_cons_zero, List.set_cons_succ])
   replace hs := hs.drew
   replace hr := hr.drew
   replace hb := hb.drew
   generalize (Vac).drew = Vba at *
   refine tk 1 hH ?_
   refine tk 2 hH ?_
   refine tk 3 hH ?_
   refine tk 4 hH ?_
   refine tk 5 hH ?_
   refine tk 6 hH ?_
   refine tk 7 hH ?_
   refine tk 8 hH ?_
   refine tk 9 hH ?_
   refine tk 10 hH ?_
   refine tk 11 hH ?_
   refine tk 12 hH ?_
   refine tk 13 hH ?_
   refine tk 14 hH ?_
   refine tk 15 hH ?_
   refine rd1 0 (fun K hK => ?_)
   have cc0 : Vba.cell? ⟨gr, 0, none⟩ = some (.int .i32 q0) := hr.cell 0
   have cc1 : Vba.cell? ⟨gr, 1, none⟩ = some (.int .i32 q1) := hr.cell 1
   have cc2 : Vba.cell? ⟨gr, 2, none⟩ = some (.int .i32 q2) := hr.cell 2
   have cc3 : Vba.cell? ⟨gr, 3, none⟩ = some (.int .i32 q3) := hr.cell 3
   have cc4 : Vba.cell? ⟨gr, 4, none⟩ = some (.int .i32 b0) := hr.cell 4
   have cc5 : Vba.cell? ⟨gr, 5, none⟩ = some (.int .i32 b1) := hr.cell 5
   have cc6 : Vba.cell? ⟨gr, 6, none⟩ = some (.int .i32 b2) := hr.cell 6
   have cc7 : Vba.cell? ⟨gr, 7, none⟩ = some (.int .i64 (j : Int)) := hr.cell 7
   have cc8 : Vba.cell? ⟨gr, 8, none⟩ = some (.int .i64 c) := hr.cell 8
   go_simp
   try go_wp2_with fail
   clear cc0 cc1 cc2 cc3 cc4 cc5 cc6 cc7 cc8
   refine hK.out _ _ ((HSm.out.below hb).cells_ hlt) (fun hH => ?_)
   clear hK K
   try (simp only [Act.put, List.setIfInBounds_toArray, List.set_cons_zero, List.set_cons_succ])
   refine rd1 16 (fun K hK => ?_)
   go_simp
   refine (H2.out _).mono ?_
   rintro e Vbb ⟨rfl, bb⟩
   go_wp2_with fail
   replace hs := hs.below bb hs.lt
   replace hr := hr.below bb hr.lt
   replace hb := f_on hb bb
   clear bb
   refine hK.out _ _ ((HSm.out.below hb).cells_ hlt) (fun hH => ?_)
   clear hK K
   try (simp only [Act.put, List.setIfInBounds_toArray, List.set_cons_zero, List.set_cons_succ])
   refine rd1 17 (fun K hK => ?_)
   have cc0 : Vbb.cell? ⟨gr, 0, none⟩ = some (.int .i32 q0) := hr.cell 0
   have zz0 := hr.frozen 0
   have cc1 : Vbb.cell? ⟨gr, 1, none⟩ = some (.int .i32 q1) := hr.cell 1
   have zz1 := hr.frozen 1
   have cc2 : Vbb.cell? ⟨gr, 2, none⟩ = some (.int .i32 q2) := hr.cell 2
   have zz2 := hr.frozen 2
   have cc3 : Vbb.cell? ⟨gr, 3, none⟩ = some (.int .i32 q3) := hr.cell 3
   have zz3 := hr.frozen 3
   have cc4 : Vbb.cell? ⟨gr, 4, none⟩ = some (.int .i32 b0) := hr.cell 4
   have zz4 := hr.frozen 4
   have cc5 : Vbb.cell? ⟨gr, 5, none⟩ = some (.int .i32 b1) := hr.cell 5
   have zz5 := hr.frozen 5
   have cc6 : Vbb.cell? ⟨gr, 6, none⟩ = some (.int .i32 b2) := hr.cell 6
   have zz6 := hr.frozen 6
   have cc7 : Vbb.cell? ⟨gr, 7, none⟩ = some (.int .i64 (j : Int)) := hr.cell 7
   have zz7 := hr.frozen 7
   have cc8 : Vbb.cell? ⟨gr, 8, none⟩ = some (.int .i64 c) := hr.cell 8
   have zz8 := hr.frozen 8
   go_simp
   try go_wp2_with fail
   clear cc0 zz0 cc1 zz1 cc2 zz2 cc3 zz3 cc4 zz4 cc5 zz5 cc6 zz6 cc7 zz7 cc8 zz8
   have hr2 := (((((((((hr.set_ 0 (.int .i32 t0)).set_ 1 (.int .i32 t1)).set_ 2 (.int .i32 t2)).set_ 3 (.int .i32 t3)).set_ 4 (.int .i32 k0)).set_ 5 (.int .i32 k1)).set_ 6 (.int .i32 k2)).set_ 7 (.int .i64 n2)).set_ 8 (.int .i64 c2))
   simp only [List.setIfInBounds_toArray, List.set_cons_zero, List.set_cons_succ] at hr2
   replace hs := (((((((((hs.fr gr 0 (by omega) (.int .i32 t0)).fr gr 1 (by omega) (.int .i32 t1)).fr gr 2 (by omega) (.int .i32 t2)).fr gr 3 (by omega) (.int .i32 t3)).fr gr 4 (by omega) (.int .i32 k0)).fr gr 5 (by omega) (.int .i32 k1)).fr gr 6 (by omega) (.int .i32 k2)).fr gr 7 (by omega) (.int .i64 n2)).fr gr 8 (by omega) (.int .i64 c2))
   replace hb := (((((((((hb.sc gr 0 (by omega) (.int .i32 t0)).sc gr 1 (by omega) (.int .i32 t1)).sc gr 2 (by omega) (.int .i32 t2)).sc gr 3 (by omega) (.int .i32 t3)).sc gr 4 (by omega) (.int .i32 k0)).sc gr 5 (by omega) (.int .i32 k1)).sc gr 6 (by omega) (.int .i32 k2)).sc gr 7 (by omega) (.int .i64 n2)).sc gr 8 (by omega) (.int .i64 c2))
   clear hr
   have hr := hr2
   clear hr2
   generalize (((((((((Vbb.setCell ⟨gr, 0, none⟩ (.int .i32 t0)).setCell ⟨gr, 1, none⟩ (.int .i32 t1)).setCell ⟨gr, 2, none⟩ (.int .i32 t2)).setCell ⟨gr, 3, none⟩ (.int .i32 t3)).setCell ⟨gr, 4, none⟩ (.int .i32 k0)).setCell ⟨gr, 5, none⟩ (.int .i32 k1)).setCell ⟨gr, 6, none⟩ (.int .i32 k2)).setCell ⟨gr, 7, none⟩ (.int .i64 n2)).setCell ⟨gr, 8, none⟩ (.int .i64 c2)) = Vbc at *
   refine hK.out _ _ ((HSm.out.below hb).cells_ hlt) (fun hH => ?_)
   clear hK K
   try (simp only [Act.put, List.setIfInBounds_toArray, List.set_cons_zero, List.set_cons_succ])
   refine wpAnyH_done (by kernel_rfl) ?_ _
   refine NoPanic.normal ?_
   clear hH
   go_upto_region 10 with fail
   refine wp_region_noPanic ?_
   refine wp_region_held_drew (S := (fun w' : World => w'.cell? ⟨gs, 0, none⟩ = some (.int .i32 t0) ∧ w'.cell? ⟨gs, 1, none⟩ = some (.int .i32 t1) ∧ w'.cell? ⟨gs, 2, none⟩ = some (.int .i32 t2) ∧ w'.cell? ⟨gs, 3, none⟩ = some (.int .i32 t3) ∧ w'.cell? ⟨gs, 4, none⟩ = some (.int .i32 k0) ∧ w'.cell? ⟨gs, 5, none⟩ = some (.int .i32 k1) ∧ w'.cell? ⟨gs, 6, none⟩ = some (.int .i32 k2) ∧ w'.cell? ⟨gs, 7, none⟩ = some (.int .i64 n2) ∧ w'.cell? ⟨gs, 8, none⟩ = some (.int .i64 c2) ∧ w'.cell? ⟨gr, 0, none⟩ = some (.int .i32 t0) ∧ w'.cell? ⟨gr, 1, none⟩ = some (.int .i32 t1) ∧ w'.cell? ⟨gr, 2, none⟩ = some (.int .i32 t2) ∧ w'.cell? ⟨gr, 3, none⟩ = some (.int .i32 t3) ∧ w'.cell? ⟨gr, 4, none⟩ = some (.int .i32 k0) ∧ w'.cell? ⟨gr, 5, none⟩ = some (.int .i32 k1) ∧ w'.cell? ⟨gr, 6, none⟩ = some (.int .i32 k2) ∧ w'.cell? ⟨gr, 7, none⟩ = some (.int .i64 n2) ∧ w'.cell? ⟨gr, 8, none⟩ = some (.int .i64 c2))) (by kernel_rfl) ⟨hs.cell 0, hs.cell 1, hs.cell 2, hs.cell 3, hs.cell 4, hs.cell 5, hs.cell 6, hs.cell 7, hs.cell 8, hr.cell 0, hr.cell 1, hr.cell 2, hr.cell 3, hr.cell 4, hr.cell 5, hr.cell 6, hr.cell 7, hr.cell 8⟩ (fun hH => ?_)
   refine (show wpAnyH _ _ _ _ _ 11 _ _ _ from ?_)
   try (simp only [Act.put, List.setIfInBounds_toArray, List.set_cons_zero, List.set_cons_succ])
   replace hs := hs.drew
   replace hr := hr.drew
   replace hb := hb.drew
   generalize (Vbc).drew = V1 at *
   refine tk 0 hH ?_
   refine tk 2 hH ?_
   refine rd1 1 (fun K hK => ?_)
   go_simp
   refine (H3.out _).mono ?_
   rintro e V2 ⟨rfl, bb⟩
   go_wp2_with fail
   replace hs := hs.below bb hs.lt
   replace hr := hr.below bb hr.lt
   replace hb := f_on hb bb
   clear bb
   refine hK.out _ _ ⟨hs.cell 0, hs.cell 1, hs.cell 2, hs.cell 3, hs.cell 4, hs.cell 5, hs.cell 6, hs.cell 7, hs.cell 8, hr.cell 0, hr.cell 1, hr.cell 2, hr.cell 3, hr.cell 4, hr.cell 5, hr.cell 6, hr.cell 7, hr.cell 8⟩ (fun hH => ?_)
   clear hK K
   try (simp only [Act.put, List.setIfInBounds_toArray, List.set_cons_zero, List.set_cons_succ])
   refine tk 3 hH ?_
   refine tk 4 hH ?_
   refine tk 5 hH ?_
   refine tk 7 hH ?_
   refine rd1 6 (fun K hK => ?_)
   go_simp
   refine (H4.out _).mono ?_
   rintro e V3 ⟨rfl, bb⟩
   go_wp2_with fail
   replace hs := hs.below bb hs.lt
   replace hr := hr.below bb hr.lt
   replace hb := f_on hb bb
   clear bb
   refine hK.out _ _ ⟨hs.cell 0, hs.cell 1, hs.cell 2, hs.cell 3, hs.cell 4, hs.cell 5, hs.cell 6, hs.cell 7, hs.cell 8, hr.cell 0, hr.cell 1, hr.cell 2, hr.cell 3, hr.cell 4, hr.cell 5, hr.cell 6, hr.cell 7, hr.cell 8⟩ (fun hH => ?_)
   clear hK K
   try (simp only [Act.put, List.setIfInBounds_toArray, List.set_cons_zero, List.set_cons_succ])
   refine rd1 8 (fun K hK => ?_)
   go_simp
   refine (H5.out _).mono ?_
   rintro e V4 ⟨rfl, bb⟩
   go_wp2_with fail
   replace hs := hs.below bb hs.lt
   replace hr := hr.below bb hr.lt
   replace hb := f_on hb bb
   clear bb
   refine hK.out _ _ ⟨hs.cell 0, hs.cell 1, hs.cell 2, hs.cell 3, hs.cell 4, hs.cell 5, hs.cell 6, hs.cell 7, hs.cell 8, hr.cell 0, hr.cell 1, hr.cell 2, hr.cell 3, hr.cell 4, hr.cell 5, hr.cell 6, hr.cell 7, hr.cell 8⟩ (fun hH => ?_)
   clear hK K
   try (simp only [Act.put, List.setIfInBounds_toArray, List.set_cons_zero, List.set_cons_succ])
   refine tk 9 hH ?_
   refine tk 10 hH ?_
   refine wpAnyH_done (by kernel_rfl) ?_ _
   refine NoPanic.normal ?_
   clear hH
   go_wp2_with fail
   go_roundw
   case rel =>
    have en := HN2.out
    subst en
    exact ⟨j + 1, t0, t1, t2, t3, k0, k1, k2, c2, by omega, rfl, hI.out, HC2.out, hs, hr, hb⟩
   case measure => simpa [intOf] using mj
  ·obtain rfl : j = N := by omega
   clear h
   go_wp2
   go_ret
   exact ⟨rfl, hb⟩
end Go.Proofs.YtgmepohfkpncmaaGreat
