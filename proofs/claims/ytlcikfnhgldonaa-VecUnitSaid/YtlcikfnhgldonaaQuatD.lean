/- Chapter 10: quaternions: turned round, taken from 0, the norm. -/
import Derived.Test.YtlcikfnhgldonaaQuatC
namespace Go.Proofs.Ytlcikfnhgldonaa
open Go.RowKit

def Widing0 (a b c d : Int) (j l0 l1 l2 l3 : Int) : Prop :=
  (j = 0 ∧ 0 = l0 ∧ 0 = l1 ∧ 0 = l2 ∧ 0 = l3) ∨
  (j = 1 ∧ -a = l0 ∧ 0 = l1 ∧ 0 = l2 ∧ 0 = l3) ∨
  (j = 2 ∧ -a = l0 ∧ -b = l1 ∧ 0 = l2 ∧ 0 = l3) ∨
  (j = 3 ∧ -a = l0 ∧ -b = l1 ∧ -c = l2 ∧ 0 = l3) ∨
  (j = 4 ∧ -a = l0 ∧ -b = l1 ∧ -c = l2 ∧ -d = l3)
theorem q_wide0 (a b c d : Int) (w : World) (ha : I32 a) (hb : I32 b) (hc : I32 c) (hd : I32 d) :
    Calls Try.prog 57 #[.agg #[.int .i32 a, .int .i32 b, .int .i32 c, .int .i32 d], .int .i64 0] w fun e w' => e = .returned (.agg #[.int .i64 (-a), .int .i64 (-b), .int .i64 (-c), .int .i64 (-d)]) ∧ Below w.heap.size w w' := by
  obtain ⟨a1, a2⟩ := ha
  obtain ⟨b1, b2⟩ := hb
  obtain ⟨c1, c2⟩ := hc
  obtain ⟨d1, d2⟩ := hd
  have X0 : ∀ w, (Instr.index 37 (.agg #[.int .i32 a, .int .i32 b, .int .i32 c, .int .i32 d]) (.int .i64 0)).run Try.prog w = .ok (.int .i32 a) w := fun _ => by kernel_rfl
  have X1 : ∀ w, (Instr.index 37 (.agg #[.int .i32 a, .int .i32 b, .int .i32 c, .int .i32 d]) (.int .i64 1)).run Try.prog w = .ok (.int .i32 b) w := fun _ => by kernel_rfl
  have X2 : ∀ w, (Instr.index 37 (.agg #[.int .i32 a, .int .i32 b, .int .i32 c, .int .i32 d]) (.int .i64 2)).run Try.prog w = .ok (.int .i32 c) w := fun _ => by kernel_rfl
  have X3 : ∀ w, (Instr.index 37 (.agg #[.int .i32 a, .int .i32 b, .int .i32 c, .int .i32 d]) (.int .i64 3)).run Try.prog w = .ok (.int .i32 d) w := fun _ => by kernel_rfl
  have HL := hid fun w => q_list a b c d w
  go_enter Try.func57, Try.ntmps57
  go_wp2_with fail
  refine (HL.out _).mono ?_
  rintro e w1 ⟨rfl, b1⟩
  have k1 : Blk w1 (w.heap.size + 1) 57 #[.int .i64 0, .int .i64 0, .int .i64 0, .int .i64 0] := by have := ((Blk.new (w.alloc (.cells #[.int .i32 a, .int .i32 b, .int .i32 c, .int .i32 d] 23)) 57 #[.int .i64 0, .int .i64 0, .int .i64 0, .int .i64 0]).alloc (.cells #[.int .i64 0, .int .i64 0, .int .i64 0, .int .i64 0] 57)).below b1 (by simp); simpa using this
  have k2 : Blk w1 (w.heap.size + 1 + 1) 57 #[.int .i64 0, .int .i64 0, .int .i64 0, .int .i64 0] := by have := (Blk.new ((w.alloc (.cells #[.int .i32 a, .int .i32 b, .int .i32 c, .int .i32 d] 23)).alloc (.cells #[.int .i64 0, .int .i64 0, .int .i64 0, .int .i64 0] 57)) 57 #[.int .i64 0, .int .i64 0, .int .i64 0, .int .i64 0]).below b1 (by simp); simpa using this
  have k3 : Below w.heap.size w w1 := ((((Below.refl _ w).alloc (Nat.le_refl _) _).alloc (by simp) _).alloc (by simp; omega) _).trans (b1.mono (by simp; omega))
  clear b1
  go_wp2
  go_loopw [10] (fun i wr => ∃ j l0 l1 l2 l3 : Int, i = .int .i64 j ∧ Hid (Widing0 a b c d j l0 l1 l2 l3) ∧
    Blk wr (w.heap.size + 1) 57 #[.int .i64 0, .int .i64 0, .int .i64 0, .int .i64 0] ∧ Blk wr (w.heap.size + 1 + 1) 57 #[.int .i64 l0, .int .i64 l1, .int .i64 l2, .int .i64 l3] ∧ Below w.heap.size w wr) (fun i _ => 4 - (intOf i).toNat)
  case atStart => exact ⟨0, 0, 0, 0, 0, rfl, .inl ⟨rfl, rfl, rfl, rfl, rfl⟩, k1, k2, k3⟩
  case round =>
    clear k1 k2 k3
    obtain ⟨j, l0, l1, l2, l3, rfl, hcut, hb1, hb2, hbe⟩ := hrel
    have c0 : wr.cell? ⟨w.heap.size + 1 + 1, 0, none⟩ = some (.int .i64 l0) := hb2.cell 0
    have c1 : wr.cell? ⟨w.heap.size + 1 + 1, 1, none⟩ = some (.int .i64 l1) := hb2.cell 1
    have c2 : wr.cell? ⟨w.heap.size + 1 + 1, 2, none⟩ = some (.int .i64 l2) := hb2.cell 2
    have c3 : wr.cell? ⟨w.heap.size + 1 + 1, 3, none⟩ = some (.int .i64 l3) := hb2.cell 3
    have z0 := hb2.frozen 0
    have z1 := hb2.frozen 1
    have z2 := hb2.frozen 2
    have z3 := hb2.frozen 3
    have hlt := hbe.size
    rcases hcut.out with ⟨rfl, rfl, rfl, rfl, rfl⟩ | ⟨rfl, rfl, rfl, rfl, rfl⟩ | ⟨rfl, rfl, rfl, rfl, rfl⟩ | ⟨rfl, rfl, rfl, rfl, rfl⟩ | ⟨rfl, rfl, rfl, rfl, rfl⟩
    · clear hcut
      go_wp2
      go_roundw
      case rel => exact ⟨1, -a, 0, 0, 0, rfl, .inr <| .inl ⟨rfl, rfl, rfl, rfl, rfl⟩, (hb1.far (by simp) _).far (by simp) _, by have := (hb2.set_ 0 (.int .i64 a)).set_ 0 (.int .i64 (-a)); simpa using this, (hbe.setCell (by simp; omega) _).setCell (by simp; omega) _⟩
      case measure => simp [intOf]
    · clear hcut
      go_wp2
      go_roundw
      case rel => exact ⟨2, -a, -b, 0, 0, rfl, .inr <| .inr <| .inl ⟨rfl, rfl, rfl, rfl, rfl⟩, (hb1.far (by simp) _).far (by simp) _, by have := (hb2.set_ 1 (.int .i64 b)).set_ 1 (.int .i64 (-b)); simpa using this, (hbe.setCell (by simp; omega) _).setCell (by simp; omega) _⟩
      case measure => simp [intOf]
    · clear hcut
      go_wp2
      go_roundw
      case rel => exact ⟨3, -a, -b, -c, 0, rfl, .inr <| .inr <| .inr <| .inl ⟨rfl, rfl, rfl, rfl, rfl⟩, (hb1.far (by simp) _).far (by simp) _, by have := (hb2.set_ 2 (.int .i64 c)).set_ 2 (.int .i64 (-c)); simpa using this, (hbe.setCell (by simp; omega) _).setCell (by simp; omega) _⟩
      case measure => simp [intOf]
    · clear hcut
      go_wp2
      go_roundw
      case rel => exact ⟨4, -a, -b, -c, -d, rfl, .inr <| .inr <| .inr <| .inr <| ⟨rfl, rfl, rfl, rfl, rfl⟩, (hb1.far (by simp) _).far (by simp) _, by have := (hb2.set_ 3 (.int .i64 d)).set_ 3 (.int .i64 (-d)); simpa using this, (hbe.setCell (by simp; omega) _).setCell (by simp; omega) _⟩
      case measure => simp [intOf]
    · clear hcut
      have y0 : wr.cell? ⟨w.heap.size + 1, 0, none⟩ = some (.int .i64 0) := hb1.cell 0
      have y1 : wr.cell? ⟨w.heap.size + 1, 1, none⟩ = some (.int .i64 0) := hb1.cell 1
      have y2 : wr.cell? ⟨w.heap.size + 1, 2, none⟩ = some (.int .i64 0) := hb1.cell 2
      have y3 : wr.cell? ⟨w.heap.size + 1, 3, none⟩ = some (.int .i64 0) := hb1.cell 3
      have v0 := hb1.frozen 0
      have v1 := hb1.frozen 1
      have v2 := hb1.frozen 2
      have v3 := hb1.frozen 3
      go_wp2
      have hb9 := ((((hb1.set_ 0 (.int .i64 (-a))).set_ 1 (.int .i64 (-b))).set_ 2 (.int .i64 (-c))).set_ 3 (.int .i64 (-d)))
      have hbf : Below w.heap.size w ((((wr.setCell ⟨w.heap.size + 1, 0, none⟩ (.int .i64 (-a))).setCell ⟨w.heap.size + 1, 1, none⟩ (.int .i64 (-b))).setCell ⟨w.heap.size + 1, 2, none⟩ (.int .i64 (-c))).setCell ⟨w.heap.size + 1, 3, none⟩ (.int .i64 (-d))) := ((((hbe.setCell (by simp) _).setCell (by simp) _).setCell (by simp) _).setCell (by simp) _)
      generalize ((((wr.setCell ⟨w.heap.size + 1, 0, none⟩ (.int .i64 (-a))).setCell ⟨w.heap.size + 1, 1, none⟩ (.int .i64 (-b))).setCell ⟨w.heap.size + 1, 2, none⟩ (.int .i64 (-c))).setCell ⟨w.heap.size + 1, 3, none⟩ (.int .i64 (-d))) = W at *
      have e0 : W.cell? ⟨w.heap.size + 1, 0, none⟩ = some (.int .i64 (-a)) := hb9.cell 0
      have e1 : W.cell? ⟨w.heap.size + 1, 1, none⟩ = some (.int .i64 (-b)) := hb9.cell 1
      have e2 : W.cell? ⟨w.heap.size + 1, 2, none⟩ = some (.int .i64 (-c)) := hb9.cell 2
      have e3 : W.cell? ⟨w.heap.size + 1, 3, none⟩ = some (.int .i64 (-d)) := hb9.cell 3
      clear hb9 hb1 hb2 c0 c1 c2 c3 y0 y1 y2 y3
      simp [bodyPost, results, Try.results57, go_sem, e0, e1, e2, e3]
      exact hbf

def Widing1 (a b c d : Int) (j l0 l1 l2 l3 : Int) : Prop :=
  (j = 0 ∧ 0 = l0 ∧ 0 = l1 ∧ 0 = l2 ∧ 0 = l3) ∨
  (j = 1 ∧ a = l0 ∧ 0 = l1 ∧ 0 = l2 ∧ 0 = l3) ∨
  (j = 2 ∧ a = l0 ∧ -b = l1 ∧ 0 = l2 ∧ 0 = l3) ∨
  (j = 3 ∧ a = l0 ∧ -b = l1 ∧ -c = l2 ∧ 0 = l3) ∨
  (j = 4 ∧ a = l0 ∧ -b = l1 ∧ -c = l2 ∧ -d = l3)
theorem q_wide1 (a b c d : Int) (w : World) (ha : I32 a) (hb : I32 b) (hc : I32 c) (hd : I32 d) :
    Calls Try.prog 57 #[.agg #[.int .i32 a, .int .i32 b, .int .i32 c, .int .i32 d], .int .i64 1] w fun e w' => e = .returned (.agg #[.int .i64 (a), .int .i64 (-b), .int .i64 (-c), .int .i64 (-d)]) ∧ Below w.heap.size w w' := by
  obtain ⟨a1, a2⟩ := ha
  obtain ⟨b1, b2⟩ := hb
  obtain ⟨c1, c2⟩ := hc
  obtain ⟨d1, d2⟩ := hd
  have X0 : ∀ w, (Instr.index 37 (.agg #[.int .i32 a, .int .i32 b, .int .i32 c, .int .i32 d]) (.int .i64 0)).run Try.prog w = .ok (.int .i32 a) w := fun _ => by kernel_rfl
  have X1 : ∀ w, (Instr.index 37 (.agg #[.int .i32 a, .int .i32 b, .int .i32 c, .int .i32 d]) (.int .i64 1)).run Try.prog w = .ok (.int .i32 b) w := fun _ => by kernel_rfl
  have X2 : ∀ w, (Instr.index 37 (.agg #[.int .i32 a, .int .i32 b, .int .i32 c, .int .i32 d]) (.int .i64 2)).run Try.prog w = .ok (.int .i32 c) w := fun _ => by kernel_rfl
  have X3 : ∀ w, (Instr.index 37 (.agg #[.int .i32 a, .int .i32 b, .int .i32 c, .int .i32 d]) (.int .i64 3)).run Try.prog w = .ok (.int .i32 d) w := fun _ => by kernel_rfl
  have HL := hid fun w => q_list a b c d w
  go_enter Try.func57, Try.ntmps57
  go_wp2_with fail
  refine (HL.out _).mono ?_
  rintro e w1 ⟨rfl, b1⟩
  have k1 : Blk w1 (w.heap.size + 1) 57 #[.int .i64 0, .int .i64 0, .int .i64 0, .int .i64 0] := by have := ((Blk.new (w.alloc (.cells #[.int .i32 a, .int .i32 b, .int .i32 c, .int .i32 d] 23)) 57 #[.int .i64 0, .int .i64 0, .int .i64 0, .int .i64 0]).alloc (.cells #[.int .i64 0, .int .i64 0, .int .i64 0, .int .i64 0] 57)).below b1 (by simp); simpa using this
  have k2 : Blk w1 (w.heap.size + 1 + 1) 57 #[.int .i64 0, .int .i64 0, .int .i64 0, .int .i64 0] := by have := (Blk.new ((w.alloc (.cells #[.int .i32 a, .int .i32 b, .int .i32 c, .int .i32 d] 23)).alloc (.cells #[.int .i64 0, .int .i64 0, .int .i64 0, .int .i64 0] 57)) 57 #[.int .i64 0, .int .i64 0, .int .i64 0, .int .i64 0]).below b1 (by simp); simpa using this
  have k3 : Below w.heap.size w w1 := ((((Below.refl _ w).alloc (Nat.le_refl _) _).alloc (by simp) _).alloc (by simp; omega) _).trans (b1.mono (by simp; omega))
  clear b1
  go_wp2
  go_loopw [10] (fun i wr => ∃ j l0 l1 l2 l3 : Int, i = .int .i64 j ∧ Hid (Widing1 a b c d j l0 l1 l2 l3) ∧
    Blk wr (w.heap.size + 1) 57 #[.int .i64 0, .int .i64 0, .int .i64 0, .int .i64 0] ∧ Blk wr (w.heap.size + 1 + 1) 57 #[.int .i64 l0, .int .i64 l1, .int .i64 l2, .int .i64 l3] ∧ Below w.heap.size w wr) (fun i _ => 4 - (intOf i).toNat)
  case atStart => exact ⟨0, 0, 0, 0, 0, rfl, .inl ⟨rfl, rfl, rfl, rfl, rfl⟩, k1, k2, k3⟩
  case round =>
    clear k1 k2 k3
    obtain ⟨j, l0, l1, l2, l3, rfl, hcut, hb1, hb2, hbe⟩ := hrel
    have c0 : wr.cell? ⟨w.heap.size + 1 + 1, 0, none⟩ = some (.int .i64 l0) := hb2.cell 0
    have c1 : wr.cell? ⟨w.heap.size + 1 + 1, 1, none⟩ = some (.int .i64 l1) := hb2.cell 1
    have c2 : wr.cell? ⟨w.heap.size + 1 + 1, 2, none⟩ = some (.int .i64 l2) := hb2.cell 2
    have c3 : wr.cell? ⟨w.heap.size + 1 + 1, 3, none⟩ = some (.int .i64 l3) := hb2.cell 3
    have z0 := hb2.frozen 0
    have z1 := hb2.frozen 1
    have z2 := hb2.frozen 2
    have z3 := hb2.frozen 3
    have hlt := hbe.size
    rcases hcut.out with ⟨rfl, rfl, rfl, rfl, rfl⟩ | ⟨rfl, rfl, rfl, rfl, rfl⟩ | ⟨rfl, rfl, rfl, rfl, rfl⟩ | ⟨rfl, rfl, rfl, rfl, rfl⟩ | ⟨rfl, rfl, rfl, rfl, rfl⟩
    · clear hcut
      go_wp2
      go_roundw
      case rel => exact ⟨1, a, 0, 0, 0, rfl, .inr <| .inl ⟨rfl, rfl, rfl, rfl, rfl⟩, hb1.far (by simp) _, by have := hb2.set_ 0 (.int .i64 a); simpa using this, hbe.setCell (by simp; omega) _⟩
      case measure => simp [intOf]
    · clear hcut
      go_wp2
      go_roundw
      case rel => exact ⟨2, a, -b, 0, 0, rfl, .inr <| .inr <| .inl ⟨rfl, rfl, rfl, rfl, rfl⟩, (hb1.far (by simp) _).far (by simp) _, by have := (hb2.set_ 1 (.int .i64 b)).set_ 1 (.int .i64 (-b)); simpa using this, (hbe.setCell (by simp; omega) _).setCell (by simp; omega) _⟩
      case measure => simp [intOf]
    · clear hcut
      go_wp2
      go_roundw
      case rel => exact ⟨3, a, -b, -c, 0, rfl, .inr <| .inr <| .inr <| .inl ⟨rfl, rfl, rfl, rfl, rfl⟩, (hb1.far (by simp) _).far (by simp) _, by have := (hb2.set_ 2 (.int .i64 c)).set_ 2 (.int .i64 (-c)); simpa using this, (hbe.setCell (by simp; omega) _).setCell (by simp; omega) _⟩
      case measure => simp [intOf]
    · clear hcut
      go_wp2
      go_roundw
      case rel => exact ⟨4, a, -b, -c, -d, rfl, .inr <| .inr <| .inr <| .inr <| ⟨rfl, rfl, rfl, rfl, rfl⟩, (hb1.far (by simp) _).far (by simp) _, by have := (hb2.set_ 3 (.int .i64 d)).set_ 3 (.int .i64 (-d)); simpa using this, (hbe.setCell (by simp; omega) _).setCell (by simp; omega) _⟩
      case measure => simp [intOf]
    · clear hcut
      have y0 : wr.cell? ⟨w.heap.size + 1, 0, none⟩ = some (.int .i64 0) := hb1.cell 0
      have y1 : wr.cell? ⟨w.heap.size + 1, 1, none⟩ = some (.int .i64 0) := hb1.cell 1
      have y2 : wr.cell? ⟨w.heap.size + 1, 2, none⟩ = some (.int .i64 0) := hb1.cell 2
      have y3 : wr.cell? ⟨w.heap.size + 1, 3, none⟩ = some (.int .i64 0) := hb1.cell 3
      have v0 := hb1.frozen 0
      have v1 := hb1.frozen 1
      have v2 := hb1.frozen 2
      have v3 := hb1.frozen 3
      go_wp2
      have hb9 := ((((hb1.set_ 0 (.int .i64 (a))).set_ 1 (.int .i64 (-b))).set_ 2 (.int .i64 (-c))).set_ 3 (.int .i64 (-d)))
      have hbf : Below w.heap.size w ((((wr.setCell ⟨w.heap.size + 1, 0, none⟩ (.int .i64 (a))).setCell ⟨w.heap.size + 1, 1, none⟩ (.int .i64 (-b))).setCell ⟨w.heap.size + 1, 2, none⟩ (.int .i64 (-c))).setCell ⟨w.heap.size + 1, 3, none⟩ (.int .i64 (-d))) := ((((hbe.setCell (by simp) _).setCell (by simp) _).setCell (by simp) _).setCell (by simp) _)
      generalize ((((wr.setCell ⟨w.heap.size + 1, 0, none⟩ (.int .i64 (a))).setCell ⟨w.heap.size + 1, 1, none⟩ (.int .i64 (-b))).setCell ⟨w.heap.size + 1, 2, none⟩ (.int .i64 (-c))).setCell ⟨w.heap.size + 1, 3, none⟩ (.int .i64 (-d))) = W at *
      have e0 : W.cell? ⟨w.heap.size + 1, 0, none⟩ = some (.int .i64 (a)) := hb9.cell 0
      have e1 : W.cell? ⟨w.heap.size + 1, 1, none⟩ = some (.int .i64 (-b)) := hb9.cell 1
      have e2 : W.cell? ⟨w.heap.size + 1, 2, none⟩ = some (.int .i64 (-c)) := hb9.cell 2
      have e3 : W.cell? ⟨w.heap.size + 1, 3, none⟩ = some (.int .i64 (-d)) := hb9.cell 3
      clear hb9 hb1 hb2 c0 c1 c2 c3 y0 y1 y2 y3
      simp [bodyPost, results, Try.results57, go_sem, e0, e1, e2, e3]
      exact hbf

theorem q_Conj (a b c d : Int) (w : World) (ha : I32 a) (hb : I32 b) (hc : I32 c) (hd : I32 d) :
    Calls Try.prog 20 #[.agg #[.int .i32 a, .int .i32 b, .int .i32 c, .int .i32 d]] w fun e w' => e = .returned (.tuple #[.agg #[.int .i32 (clampP (a)), .int .i32 (clampP (-b)), .int .i32 (clampP (-c)), .int .i32 (clampP (-d))], .int .i64 (cutC (a) + cutC (-b) + cutC (-c) + cutC (-d))]) ∧ Below w.heap.size w w' := by
  have H1 := hid fun w => q_wide1 a b c d w ha hb hc hd
  have H2 := hid fun w => q_cut (a) (-b) (-c) (-d) w (by unfold I32 I64 at *; omega) (by unfold I32 I64 at *; omega) (by unfold I32 I64 at *; omega) (by unfold I32 I64 at *; omega)
  generalize clampP (a) = x0 at *
  generalize clampP (-b) = x1 at *
  generalize clampP (-c) = x2 at *
  generalize clampP (-d) = x3 at *
  generalize cutC (a) + cutC (-b) + cutC (-c) + cutC (-d) = n at *
  clear ha hb hc hd
  go_enter Try.func20, Try.ntmps20
  go_wp2_with fail
  refine (H1.out _).mono ?_
  rintro e w1 ⟨rfl, b1⟩
  go_wp2_with fail
  refine (H2.out _).mono ?_
  rintro e w2 ⟨rfl, b2⟩
  have hb1 : Blk w2 (w.heap.size + 1) 23 #[.int .i32 0, .int .i32 0, .int .i32 0, .int .i32 0] := by
    have := ((Blk.new (w.alloc (.cells #[.int .i32 a, .int .i32 b, .int .i32 c, .int .i32 d] 23)) 23 #[.int .i32 0, .int .i32 0, .int .i32 0, .int .i32 0]).below (b1.on b2) (by simp))
    simpa using this
  have hbe : Below w.heap.size w w2 := (((Below.refl _ w).alloc (Nat.le_refl _) _).alloc (by simp) _).trans ((b1.on b2).mono (by simp; omega))
  clear b1 b2
  have y0 : w2.cell? ⟨w.heap.size + 1, 0, none⟩ = some (.int .i32 0) := hb1.cell 0
  have y1 : w2.cell? ⟨w.heap.size + 1, 1, none⟩ = some (.int .i32 0) := hb1.cell 1
  have y2 : w2.cell? ⟨w.heap.size + 1, 2, none⟩ = some (.int .i32 0) := hb1.cell 2
  have y3 : w2.cell? ⟨w.heap.size + 1, 3, none⟩ = some (.int .i32 0) := hb1.cell 3
  have v0 := hb1.frozen 0
  have v1 := hb1.frozen 1
  have v2 := hb1.frozen 2
  have v3 := hb1.frozen 3
  go_wp2
  have hb9 := ((((hb1.set_ 0 (.int .i32 x0)).set_ 1 (.int .i32 x1)).set_ 2 (.int .i32 x2)).set_ 3 (.int .i32 x3))
  have hbf : Below w.heap.size w ((((w2.setCell ⟨w.heap.size + 1, 0, none⟩ (.int .i32 x0)).setCell ⟨w.heap.size + 1, 1, none⟩ (.int .i32 x1)).setCell ⟨w.heap.size + 1, 2, none⟩ (.int .i32 x2)).setCell ⟨w.heap.size + 1, 3, none⟩ (.int .i32 x3)) := ((((hbe.setCell (by simp) _).setCell (by simp) _).setCell (by simp) _).setCell (by simp) _)
  generalize ((((w2.setCell ⟨w.heap.size + 1, 0, none⟩ (.int .i32 x0)).setCell ⟨w.heap.size + 1, 1, none⟩ (.int .i32 x1)).setCell ⟨w.heap.size + 1, 2, none⟩ (.int .i32 x2)).setCell ⟨w.heap.size + 1, 3, none⟩ (.int .i32 x3)) = W at *
  have e0 : W.cell? ⟨w.heap.size + 1, 0, none⟩ = some (.int .i32 x0) := hb9.cell 0
  have e1 : W.cell? ⟨w.heap.size + 1, 1, none⟩ = some (.int .i32 x1) := hb9.cell 1
  have e2 : W.cell? ⟨w.heap.size + 1, 2, none⟩ = some (.int .i32 x2) := hb9.cell 2
  have e3 : W.cell? ⟨w.heap.size + 1, 3, none⟩ = some (.int .i32 x3) := hb9.cell 3
  clear hb9 hb1 y0 y1 y2 y3
  simp [bodyPost, results, Try.results20, go_sem, e0, e1, e2, e3]
  exact hbf
theorem q_Neg (a b c d : Int) (w : World) (ha : I32 a) (hb : I32 b) (hc : I32 c) (hd : I32 d) :
    Calls Try.prog 25 #[.agg #[.int .i32 a, .int .i32 b, .int .i32 c, .int .i32 d]] w fun e w' => e = .returned (.tuple #[.agg #[.int .i32 (clampP (-a)), .int .i32 (clampP (-b)), .int .i32 (clampP (-c)), .int .i32 (clampP (-d))], .int .i64 (cutC (-a) + cutC (-b) + cutC (-c) + cutC (-d))]) ∧ Below w.heap.size w w' := by
  have H1 := hid fun w => q_wide0 a b c d w ha hb hc hd
  have H2 := hid fun w => q_cut (-a) (-b) (-c) (-d) w (by unfold I32 I64 at *; omega) (by unfold I32 I64 at *; omega) (by unfold I32 I64 at *; omega) (by unfold I32 I64 at *; omega)
  generalize clampP (-a) = x0 at *
  generalize clampP (-b) = x1 at *
  generalize clampP (-c) = x2 at *
  generalize clampP (-d) = x3 at *
  generalize cutC (-a) + cutC (-b) + cutC (-c) + cutC (-d) = n at *
  clear ha hb hc hd
  go_enter Try.func25, Try.ntmps25
  go_wp2_with fail
  refine (H1.out _).mono ?_
  rintro e w1 ⟨rfl, b1⟩
  go_wp2_with fail
  refine (H2.out _).mono ?_
  rintro e w2 ⟨rfl, b2⟩
  have hb1 : Blk w2 (w.heap.size + 1) 23 #[.int .i32 0, .int .i32 0, .int .i32 0, .int .i32 0] := by
    have := ((Blk.new (w.alloc (.cells #[.int .i32 a, .int .i32 b, .int .i32 c, .int .i32 d] 23)) 23 #[.int .i32 0, .int .i32 0, .int .i32 0, .int .i32 0]).below (b1.on b2) (by simp))
    simpa using this
  have hbe : Below w.heap.size w w2 := (((Below.refl _ w).alloc (Nat.le_refl _) _).alloc (by simp) _).trans ((b1.on b2).mono (by simp; omega))
  clear b1 b2
  have y0 : w2.cell? ⟨w.heap.size + 1, 0, none⟩ = some (.int .i32 0) := hb1.cell 0
  have y1 : w2.cell? ⟨w.heap.size + 1, 1, none⟩ = some (.int .i32 0) := hb1.cell 1
  have y2 : w2.cell? ⟨w.heap.size + 1, 2, none⟩ = some (.int .i32 0) := hb1.cell 2
  have y3 : w2.cell? ⟨w.heap.size + 1, 3, none⟩ = some (.int .i32 0) := hb1.cell 3
  have v0 := hb1.frozen 0
  have v1 := hb1.frozen 1
  have v2 := hb1.frozen 2
  have v3 := hb1.frozen 3
  go_wp2
  have hb9 := ((((hb1.set_ 0 (.int .i32 x0)).set_ 1 (.int .i32 x1)).set_ 2 (.int .i32 x2)).set_ 3 (.int .i32 x3))
  have hbf : Below w.heap.size w ((((w2.setCell ⟨w.heap.size + 1, 0, none⟩ (.int .i32 x0)).setCell ⟨w.heap.size + 1, 1, none⟩ (.int .i32 x1)).setCell ⟨w.heap.size + 1, 2, none⟩ (.int .i32 x2)).setCell ⟨w.heap.size + 1, 3, none⟩ (.int .i32 x3)) := ((((hbe.setCell (by simp) _).setCell (by simp) _).setCell (by simp) _).setCell (by simp) _)
  generalize ((((w2.setCell ⟨w.heap.size + 1, 0, none⟩ (.int .i32 x0)).setCell ⟨w.heap.size + 1, 1, none⟩ (.int .i32 x1)).setCell ⟨w.heap.size + 1, 2, none⟩ (.int .i32 x2)).setCell ⟨w.heap.size + 1, 3, none⟩ (.int .i32 x3)) = W at *
  have e0 : W.cell? ⟨w.heap.size + 1, 0, none⟩ = some (.int .i32 x0) := hb9.cell 0
  have e1 : W.cell? ⟨w.heap.size + 1, 1, none⟩ = some (.int .i32 x1) := hb9.cell 1
  have e2 : W.cell? ⟨w.heap.size + 1, 2, none⟩ = some (.int .i32 x2) := hb9.cell 2
  have e3 : W.cell? ⟨w.heap.size + 1, 3, none⟩ = some (.int .i32 x3) := hb9.cell 3
  clear hb9 hb1 y0 y1 y2 y3
  simp [bodyPost, results, Try.results25, go_sem, e0, e1, e2, e3]
  exact hbf
theorem q_Norm (a b c d : Int) (w : World) (ha : I32 a) (hb : I32 b) (hc : I32 c) (hd : I32 d) :
    Calls Try.prog 23 #[.agg #[.int .i32 a, .int .i32 b, .int .i32 c, .int .i32 d]] w fun e w' => e = .returned (.int .u64 (sqP [a, b, c, d])) ∧ Below w.heap.size w w' := by
  have H1 := hid fun w => q_list a b c d w
  have H2 := hid fun (f : Nat) (w : World) (g : Nat) (h : Row .i32 w w.heap.size (some ⟨g, 0, none⟩) 4 [a, b, c, d]) => root_Squares (some ⟨g, 0, none⟩) 4 f [a, b, c, d] w h (by unfold I32 at *; simp; omega) (by omega)
  clear ha hb hc hd
  generalize sqP [a, b, c, d] = n at *
  go_enter Try.func23, Try.ntmps23
  go_wp2_with fail
  refine (H1.out _).mono ?_
  rintro e w1 ⟨rfl, b1⟩
  have hbe : Below w.heap.size w w1 := ((Below.refl _ w).alloc (Nat.le_refl _) _).trans (b1.mono (by simp))
  clear b1
  go_wp2_with fail
  refine (H2.out _ _ _ (Row.blk (Blk.new _ _ _) rfl (by simp))).mono ?_
  rintro e w2 ⟨rfl, rfl⟩
  go_wp2
  go_ret
  exact ⟨rfl, hbe.alloc hbe.size _⟩
end Go.Proofs.Ytlcikfnhgldonaa
