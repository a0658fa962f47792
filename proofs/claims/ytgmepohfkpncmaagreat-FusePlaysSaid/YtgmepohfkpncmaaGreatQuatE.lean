/- Chapter 10: quaternions: the leaves. -/
import Derived.Test.YtgmepohfkpncmaaGreatRootD
import Derived.Test.YtgmepohfkpncmaaGreatFixE
namespace Go.Proofs.YtgmepohfkpncmaaGreat
open Go.RowKit

/-- A product of two parts. -/
def tmP (a b : Int) : Int := roundP (a * b) 30

theorem q_times (a b : Int) (w : World) (ha : I32 a) (hb : I32 b) :
    Calls Tryz.prog 107 #[.int .i32 a, .int .i32 b] w fun e w' => e = .returned (.int .i64 (tmP a b)) ∧ Below w.heap.size w w' := by
  have hm := mul_bd a b ha hb
  have H := hid fun w => fx_Round (a * b) 30 w (by unfold I64; omega) (by unfold I64; omega)
  have HT : Hid (tmP a b = roundP (a * b) 30) := rfl
  obtain ⟨a1, a2⟩ := ha
  obtain ⟨b1, b2⟩ := hb
  generalize roundP (a * b) 30 = r at *
  go_enter Tryz.func107, Tryz.ntmps107
  go_wp2_with fail
  refine (H.out _).mono ?_
  rintro e w' ⟨rfl, hb⟩
  go_wp2
  go_ret
  exact ⟨by rw [HT.out]; rfl, hb⟩

theorem q_list (a b c d : Int) (w : World) :
    Calls Tryz.prog 105 #[.agg #[.int .i32 a, .int .i32 b, .int .i32 c, .int .i32 d]] w fun e w' => e = .returned (.agg #[.int .i32 a, .int .i32 b, .int .i32 c, .int .i32 d]) ∧ Below w.heap.size w w' := by
  go_enter Tryz.func105, Tryz.ntmps105
  go_wp2
  simp [bodyPost, results, Tryz.results105, go_sem]
  exact ((Below.refl _ w).alloc (Nat.le_refl _) _).alloc (by simp) _
theorem q_One (w : World) :
    Calls Tryz.prog 37 #[] w fun e w' => e = .returned (.agg #[.int .i32 1073741824, .int .i32 0, .int .i32 0, .int .i32 0]) ∧ Below w.heap.size w w' := by
  go_enter Tryz.func37, Tryz.ntmps37
  go_wp2
  simp [bodyPost, results, Tryz.results37, go_sem]
  exact (Below.refl _ w).alloc (Nat.le_refl _) _
end Go.Proofs.YtgmepohfkpncmaaGreat
namespace Go.Proofs.YtgmepohfkpncmaaGreat
open Go.RowKit

/-- 1 where a number is cut. -/
def cutC (x : Int) : Int := if (clampP x != x) = true then 1 else 0
theorem cutC_yes {x : Int} (h : (clampP x != x) = true) : cutC x = 1 := by unfold cutC; rw [if_pos h]
theorem cutC_no {x : Int} (h : (clampP x != x) = false) : cutC x = 0 := by unfold cutC; rw [h]; rfl
theorem cutC_bd (x : Int) : 0 ≤ cutC x ∧ cutC x ≤ 1 := by unfold cutC; split <;> omega

def Cutting (a b c d : Int) (j n l0 l1 l2 l3 : Int) : Prop :=
  (j = 0 ∧ n = 0 ∧ l0 = 0 ∧ l1 = 0 ∧ l2 = 0 ∧ l3 = 0) ∨
  (j = 1 ∧ n = cutC a ∧ l0 = clampP a ∧ l1 = 0 ∧ l2 = 0 ∧ l3 = 0) ∨
  (j = 2 ∧ n = cutC a + cutC b ∧ l0 = clampP a ∧ l1 = clampP b ∧ l2 = 0 ∧ l3 = 0) ∨
  (j = 3 ∧ n = cutC a + cutC b + cutC c ∧ l0 = clampP a ∧ l1 = clampP b ∧ l2 = clampP c ∧ l3 = 0) ∨
  (j = 4 ∧ n = cutC a + cutC b + cutC c + cutC d ∧ l0 = clampP a ∧ l1 = clampP b ∧ l2 = clampP c ∧ l3 = clampP d)

theorem q_cut (a b c d : Int) (w : World) (ha : I64 a) (hb : I64 b) (hc : I64 c) (hd : I64 d) :
    Calls Tryz.prog 108 #[.agg #[.int .i64 a, .int .i64 b, .int .i64 c, .int .i64 d]] w fun e w' =>
      e = .returned (.tuple #[.agg #[.int .i32 (clampP a), .int .i32 (clampP b), .int .i32 (clampP c), .int .i32 (clampP d)], .int .i64 (cutC a + cutC b + cutC c + cutC d)]) ∧ Below w.heap.size w w' := by
  have na := cutC_bd a
  have ga := clampP_bd a
  have h1a := fun w => fx_Clamp a w ha
  have h2a := hid (@cutC_yes a)
  have h3a := hid (@cutC_no a)
  generalize hCa : (clampP a != a) = Ba at *
  clear hCa
  have Ha := hid h1a
  clear h1a ha
  have nb := cutC_bd b
  have gb := clampP_bd b
  have h1b := fun w => fx_Clamp b w hb
  have h2b := hid (@cutC_yes b)
  have h3b := hid (@cutC_no b)
  generalize hCb : (clampP b != b) = Bb at *
  clear hCb
  have Hb := hid h1b
  clear h1b hb
  have nc := cutC_bd c
  have gc := clampP_bd c
  have h1c := fun w => fx_Clamp c w hc
  have h2c := hid (@cutC_yes c)
  have h3c := hid (@cutC_no c)
  generalize hCc : (clampP c != c) = Bc at *
  clear hCc
  have Hc := hid h1c
  clear h1c hc
  have nd := cutC_bd d
  have gd := clampP_bd d
  have h1d := fun w => fx_Clamp d w hd
  have h2d := hid (@cutC_yes d)
  have h3d := hid (@cutC_no d)
  generalize hCd : (clampP d != d) = Bd at *
  clear hCd
  have Hd := hid h1d
  clear h1d hd
  have X0 : ∀ w, (Instr.index 129 (.agg #[.int .i64 a, .int .i64 b, .int .i64 c, .int .i64 d]) (.int .i64 0)).run Tryz.prog w = .ok (.int .i64 a) w := fun _ => by kernel_rfl
  have X1 : ∀ w, (Instr.index 129 (.agg #[.int .i64 a, .int .i64 b, .int .i64 c, .int .i64 d]) (.int .i64 1)).run Tryz.prog w = .ok (.int .i64 b) w := fun _ => by kernel_rfl
  have X2 : ∀ w, (Instr.index 129 (.agg #[.int .i64 a, .int .i64 b, .int .i64 c, .int .i64 d]) (.int .i64 2)).run Tryz.prog w = .ok (.int .i64 c) w := fun _ => by kernel_rfl
  have X3 : ∀ w, (Instr.index 129 (.agg #[.int .i64 a, .int .i64 b, .int .i64 c, .int .i64 d]) (.int .i64 3)).run Tryz.prog w = .ok (.int .i64 d) w := fun _ => by kernel_rfl
  go_enter Tryz.func108, Tryz.ntmps108
  go_wp2
  go_loopw [5, 10] (fun n i wr => ∃ j N l0 l1 l2 l3 : Int, i = .int .i64 j ∧ n = .int .i64 N ∧ Hid (Cutting a b c d j N l0 l1 l2 l3) ∧
    Blk wr (w.heap.size + 1) 23 #[.int .i32 0, .int .i32 0, .int .i32 0, .int .i32 0] ∧ Blk wr (w.heap.size + 1 + 1) 94 #[.int .i32 l0, .int .i32 l1, .int .i32 l2, .int .i32 l3] ∧ Below w.heap.size w wr) (fun _ i _ => 4 - (intOf i).toNat)
  case atStart => exact ⟨0, 0, 0, 0, 0, 0, rfl, rfl, .inl ⟨rfl, rfl, rfl, rfl, rfl, rfl⟩, by have := (Blk.new (w.alloc (.cells #[.int .i64 a, .int .i64 b, .int .i64 c, .int .i64 d] 129)) 23 #[.int .i32 0, .int .i32 0, .int .i32 0, .int .i32 0]).alloc (.cells #[.int .i32 0, .int .i32 0, .int .i32 0, .int .i32 0] 94); simpa using this,
    by have := Blk.new ((w.alloc (.cells #[.int .i64 a, .int .i64 b, .int .i64 c, .int .i64 d] 129)).alloc (.cells #[.int .i32 0, .int .i32 0, .int .i32 0, .int .i32 0] 23)) 94 #[.int .i32 0, .int .i32 0, .int .i32 0, .int .i32 0]; simpa using this,
    (((Below.refl _ w).alloc (Nat.le_refl _) _).alloc (by simp) _).alloc (by simp; omega) _⟩
  case round =>
    obtain ⟨j, N, l0, l1, l2, l3, rfl, rfl, hcut, hb1, hb2, hbe⟩ := hrel
    have c0 : wr.cell? ⟨w.heap.size + 1 + 1, 0, none⟩ = some (.int .i32 l0) := hb2.cell 0
    have c1 : wr.cell? ⟨w.heap.size + 1 + 1, 1, none⟩ = some (.int .i32 l1) := hb2.cell 1
    have c2 : wr.cell? ⟨w.heap.size + 1 + 1, 2, none⟩ = some (.int .i32 l2) := hb2.cell 2
    have c3 : wr.cell? ⟨w.heap.size + 1 + 1, 3, none⟩ = some (.int .i32 l3) := hb2.cell 3
    have z0 := hb2.frozen 0
    have z1 := hb2.frozen 1
    have z2 := hb2.frozen 2
    have z3 := hb2.frozen 3
    have hlt := hbe.size
    rcases hcut.out with ⟨rfl, rfl, rfl, rfl, rfl, rfl⟩ | ⟨rfl, rfl, rfl, rfl, rfl, rfl⟩ | ⟨rfl, rfl, rfl, rfl, rfl, rfl⟩ | ⟨rfl, rfl, rfl, rfl, rfl, rfl⟩ | ⟨rfl, rfl, rfl, rfl, rfl, rfl⟩
    · clear hcut
      cases hB : Ba with
      | true =>
        have hn := h2a.out hB
        rw [hB] at Ha
        go_wp2_with fail
        refine (Ha.out _).mono ?_
        rintro e w' ⟨rfl, rfl⟩
        go_wp2
        go_roundw
        case rel => exact ⟨1, _, clampP a, 0, 0, 0, rfl, rfl, .inr <| .inl ⟨rfl, by omega, rfl, rfl, rfl, rfl⟩, hb1.far (by simp) _, by have := hb2.set_ 0 (.int .i32 (clampP a)); simpa using this, hbe.setCell (by simp; omega) _⟩
        case measure => simp [intOf]
      | false =>
        have hn := h3a.out hB
        rw [hB] at Ha
        go_wp2_with fail
        refine (Ha.out _).mono ?_
        rintro e w' ⟨rfl, rfl⟩
        go_wp2
        go_roundw
        case rel => exact ⟨1, _, clampP a, 0, 0, 0, rfl, rfl, .inr <| .inl ⟨rfl, by omega, rfl, rfl, rfl, rfl⟩, hb1.far (by simp) _, by have := hb2.set_ 0 (.int .i32 (clampP a)); simpa using this, hbe.setCell (by simp; omega) _⟩
        case measure => simp [intOf]
    · clear hcut
      cases hB : Bb with
      | true =>
        have hn := h2b.out hB
        rw [hB] at Hb
        go_wp2_with fail
        refine (Hb.out _).mono ?_
        rintro e w' ⟨rfl, rfl⟩
        go_wp2
        go_roundw
        case rel => exact ⟨2, _, clampP a, clampP b, 0, 0, rfl, rfl, .inr <| .inr <| .inl ⟨rfl, by omega, rfl, rfl, rfl, rfl⟩, hb1.far (by simp) _, by have := hb2.set_ 1 (.int .i32 (clampP b)); simpa using this, hbe.setCell (by simp; omega) _⟩
        case measure => simp [intOf]
      | false =>
        have hn := h3b.out hB
        rw [hB] at Hb
        go_wp2_with fail
        refine (Hb.out _).mono ?_
        rintro e w' ⟨rfl, rfl⟩
        go_wp2
        go_roundw
        case rel => exact ⟨2, _, clampP a, clampP b, 0, 0, rfl, rfl, .inr <| .inr <| .inl ⟨rfl, by omega, rfl, rfl, rfl, rfl⟩, hb1.far (by simp) _, by have := hb2.set_ 1 (.int .i32 (clampP b)); simpa using this, hbe.setCell (by simp; omega) _⟩
        case measure => simp [intOf]
    · clear hcut
      cases hB : Bc with
      | true =>
        have hn := h2c.out hB
        rw [hB] at Hc
        go_wp2_with fail
        refine (Hc.out _).mono ?_
        rintro e w' ⟨rfl, rfl⟩
        go_wp2
        go_roundw
        case rel => exact ⟨3, _, clampP a, clampP b, clampP c, 0, rfl, rfl, .inr <| .inr <| .inr <| .inl ⟨rfl, by omega, rfl, rfl, rfl, rfl⟩, hb1.far (by simp) _, by have := hb2.set_ 2 (.int .i32 (clampP c)); simpa using this, hbe.setCell (by simp; omega) _⟩
        case measure => simp [intOf]
      | false =>
        have hn := h3c.out hB
        rw [hB] at Hc
        go_wp2_with fail
        refine (Hc.out _).mono ?_
        rintro e w' ⟨rfl, rfl⟩
        go_wp2
        go_roundw
        case rel => exact ⟨3, _, clampP a, clampP b, clampP c, 0, rfl, rfl, .inr <| .inr <| .inr <| .inl ⟨rfl, by omega, rfl, rfl, rfl, rfl⟩, hb1.far (by simp) _, by have := hb2.set_ 2 (.int .i32 (clampP c)); simpa using this, hbe.setCell (by simp; omega) _⟩
        case measure => simp [intOf]
    · clear hcut
      cases hB : Bd with
      | true =>
        have hn := h2d.out hB
        rw [hB] at Hd
        go_wp2_with fail
        refine (Hd.out _).mono ?_
        rintro e w' ⟨rfl, rfl⟩
        go_wp2
        go_roundw
        case rel => exact ⟨4, _, clampP a, clampP b, clampP c, clampP d, rfl, rfl, .inr <| .inr <| .inr <| .inr <| ⟨rfl, by omega, rfl, rfl, rfl, rfl⟩, hb1.far (by simp) _, by have := hb2.set_ 3 (.int .i32 (clampP d)); simpa using this, hbe.setCell (by simp; omega) _⟩
        case measure => simp [intOf]
      | false =>
        have hn := h3d.out hB
        rw [hB] at Hd
        go_wp2_with fail
        refine (Hd.out _).mono ?_
        rintro e w' ⟨rfl, rfl⟩
        go_wp2
        go_roundw
        case rel => exact ⟨4, _, clampP a, clampP b, clampP c, clampP d, rfl, rfl, .inr <| .inr <| .inr <| .inr <| ⟨rfl, by omega, rfl, rfl, rfl, rfl⟩, hb1.far (by simp) _, by have := hb2.set_ 3 (.int .i32 (clampP d)); simpa using this, hbe.setCell (by simp; omega) _⟩
        case measure => simp [intOf]
    · clear hcut
      have y0 : wr.cell? ⟨w.heap.size + 1, 0, none⟩ = some (.int .i32 0) := hb1.cell 0
      have y1 : wr.cell? ⟨w.heap.size + 1, 1, none⟩ = some (.int .i32 0) := hb1.cell 1
      have y2 : wr.cell? ⟨w.heap.size + 1, 2, none⟩ = some (.int .i32 0) := hb1.cell 2
      have y3 : wr.cell? ⟨w.heap.size + 1, 3, none⟩ = some (.int .i32 0) := hb1.cell 3
      have v0 := hb1.frozen 0
      have v1 := hb1.frozen 1
      have v2 := hb1.frozen 2
      have v3 := hb1.frozen 3
      go_wp2
      have hb9 := (((hb1.set_ 0 (.int .i32 (clampP a))).set_ 1 (.int .i32 (clampP b))).set_ 2 (.int .i32 (clampP c))).set_ 3 (.int .i32 (clampP d))
      have hbf : Below w.heap.size w ((((wr.setCell ⟨w.heap.size + 1, 0, none⟩ (.int .i32 (clampP a))).setCell ⟨w.heap.size + 1, 1, none⟩ (.int .i32 (clampP b))).setCell ⟨w.heap.size + 1, 2, none⟩ (.int .i32 (clampP c))).setCell ⟨w.heap.size + 1, 3, none⟩ (.int .i32 (clampP d))) :=
        (((hbe.setCell (by simp) _).setCell (by simp) _).setCell (by simp) _).setCell (by simp) _
      generalize (((wr.setCell ⟨w.heap.size + 1, 0, none⟩ (.int .i32 (clampP a))).setCell ⟨w.heap.size + 1, 1, none⟩ (.int .i32 (clampP b))).setCell ⟨w.heap.size + 1, 2, none⟩ (.int .i32 (clampP c))).setCell ⟨w.heap.size + 1, 3, none⟩ (.int .i32 (clampP d)) = W at *
      have e0 : W.cell? ⟨w.heap.size + 1, 0, none⟩ = some (.int .i32 (clampP a)) := hb9.cell 0
      have e1 : W.cell? ⟨w.heap.size + 1, 1, none⟩ = some (.int .i32 (clampP b)) := hb9.cell 1
      have e2 : W.cell? ⟨w.heap.size + 1, 2, none⟩ = some (.int .i32 (clampP c)) := hb9.cell 2
      have e3 : W.cell? ⟨w.heap.size + 1, 3, none⟩ = some (.int .i32 (clampP d)) := hb9.cell 3
      clear hb9 hb1 hb2 c0 c1 c2 c3 y0 y1 y2 y3
      simp [bodyPost, results, Tryz.results108, go_sem, e0, e1, e2, e3]
      exact hbf
end Go.Proofs.YtgmepohfkpncmaaGreat
namespace Go.Proofs.YtgmepohfkpncmaaGreat
open Go.RowKit

theorem q_place (i j x s : Int) (w : World) (h : (i = 0 ∧ j = 0 ∧ x = 0 ∧ s = 1) ∨
    (i = 0 ∧ j = 1 ∧ x = 1 ∧ s = 1) ∨
    (i = 0 ∧ j = 2 ∧ x = 2 ∧ s = 1) ∨
    (i = 0 ∧ j = 3 ∧ x = 3 ∧ s = 1) ∨
    (i = 1 ∧ j = 0 ∧ x = 1 ∧ s = 1) ∨
    (i = 1 ∧ j = 1 ∧ x = 0 ∧ s = -1) ∨
    (i = 1 ∧ j = 2 ∧ x = 3 ∧ s = 1) ∨
    (i = 1 ∧ j = 3 ∧ x = 2 ∧ s = -1) ∨
    (i = 2 ∧ j = 0 ∧ x = 2 ∧ s = 1) ∨
    (i = 2 ∧ j = 1 ∧ x = 3 ∧ s = -1) ∨
    (i = 2 ∧ j = 2 ∧ x = 0 ∧ s = -1) ∨
    (i = 2 ∧ j = 3 ∧ x = 1 ∧ s = 1) ∨
    (i = 3 ∧ j = 0 ∧ x = 3 ∧ s = 1) ∨
    (i = 3 ∧ j = 1 ∧ x = 2 ∧ s = 1) ∨
    (i = 3 ∧ j = 2 ∧ x = 1 ∧ s = -1) ∨
    (i = 3 ∧ j = 3 ∧ x = 0 ∧ s = -1)) :
    Calls Tryz.prog 106 #[.int .i64 i, .int .i64 j] w fun e w' => e = .returned (.tuple #[.int .i64 x, .int .i64 s]) ∧ Below w.heap.size w w' := by
  have H := hid h
  clear h
  go_enter Tryz.func106, Tryz.ntmps106
  go_wp2
  have hb := Blk.new w 136 #[.int .i64 1, .int .i64 1, .int .i64 1, .int .i64 1, .int .i64 1, .int .i64 (-1), .int .i64 1, .int .i64 (-1), .int .i64 1, .int .i64 (-1), .int .i64 (-1), .int .i64 1, .int .i64 1, .int .i64 1, .int .i64 (-1), .int .i64 (-1)]
  have hbe : Below w.heap.size w (w.alloc (.cells #[.int .i64 1, .int .i64 1, .int .i64 1, .int .i64 1, .int .i64 1, .int .i64 (-1), .int .i64 1, .int .i64 (-1), .int .i64 1, .int .i64 (-1), .int .i64 (-1), .int .i64 1, .int .i64 1, .int .i64 1, .int .i64 (-1), .int .i64 (-1)] 136)) := (Below.refl _ w).alloc (Nat.le_refl _) _
  generalize w.alloc (.cells #[.int .i64 1, .int .i64 1, .int .i64 1, .int .i64 1, .int .i64 1, .int .i64 (-1), .int .i64 1, .int .i64 (-1), .int .i64 1, .int .i64 (-1), .int .i64 (-1), .int .i64 1, .int .i64 1, .int .i64 1, .int .i64 (-1), .int .i64 (-1)] 136) = W at *
  have c0 : W.cell? ⟨w.heap.size, 0, none⟩ = some (.int .i64 (1)) := hb.cell 0
  have c1 : W.cell? ⟨w.heap.size, 1, none⟩ = some (.int .i64 (1)) := hb.cell 1
  have c2 : W.cell? ⟨w.heap.size, 2, none⟩ = some (.int .i64 (1)) := hb.cell 2
  have c3 : W.cell? ⟨w.heap.size, 3, none⟩ = some (.int .i64 (1)) := hb.cell 3
  have c4 : W.cell? ⟨w.heap.size, 4, none⟩ = some (.int .i64 (1)) := hb.cell 4
  have c5 : W.cell? ⟨w.heap.size, 5, none⟩ = some (.int .i64 (-1)) := hb.cell 5
  have c6 : W.cell? ⟨w.heap.size, 6, none⟩ = some (.int .i64 (1)) := hb.cell 6
  have c7 : W.cell? ⟨w.heap.size, 7, none⟩ = some (.int .i64 (-1)) := hb.cell 7
  have c8 : W.cell? ⟨w.heap.size, 8, none⟩ = some (.int .i64 (1)) := hb.cell 8
  have c9 : W.cell? ⟨w.heap.size, 9, none⟩ = some (.int .i64 (-1)) := hb.cell 9
  have c10 : W.cell? ⟨w.heap.size, 10, none⟩ = some (.int .i64 (-1)) := hb.cell 10
  have c11 : W.cell? ⟨w.heap.size, 11, none⟩ = some (.int .i64 (1)) := hb.cell 11
  have c12 : W.cell? ⟨w.heap.size, 12, none⟩ = some (.int .i64 (1)) := hb.cell 12
  have c13 : W.cell? ⟨w.heap.size, 13, none⟩ = some (.int .i64 (1)) := hb.cell 13
  have c14 : W.cell? ⟨w.heap.size, 14, none⟩ = some (.int .i64 (-1)) := hb.cell 14
  have c15 : W.cell? ⟨w.heap.size, 15, none⟩ = some (.int .i64 (-1)) := hb.cell 15
  clear hb
  rcases H.out with ⟨rfl, rfl, rfl, rfl⟩ | ⟨rfl, rfl, rfl, rfl⟩ | ⟨rfl, rfl, rfl, rfl⟩ | ⟨rfl, rfl, rfl, rfl⟩ | ⟨rfl, rfl, rfl, rfl⟩ | ⟨rfl, rfl, rfl, rfl⟩ | ⟨rfl, rfl, rfl, rfl⟩ | ⟨rfl, rfl, rfl, rfl⟩ | ⟨rfl, rfl, rfl, rfl⟩ | ⟨rfl, rfl, rfl, rfl⟩ | ⟨rfl, rfl, rfl, rfl⟩ | ⟨rfl, rfl, rfl, rfl⟩ | ⟨rfl, rfl, rfl, rfl⟩ | ⟨rfl, rfl, rfl, rfl⟩ | ⟨rfl, rfl, rfl, rfl⟩ | ⟨rfl, rfl, rfl, rfl⟩
  · clear c1 c2 c3 c4 c5 c6 c7 c8 c9 c10 c11 c12 c13 c14 c15
    go_quiet (fail)
    go_wp2
    go_ret2
    exact ⟨rfl, hbe.drewN' _⟩
  · clear c0 c2 c3 c4 c5 c6 c7 c8 c9 c10 c11 c12 c13 c14 c15
    go_quiet (fail)
    go_wp2
    go_ret2
    exact ⟨rfl, hbe.drewN' _⟩
  · clear c0 c1 c3 c4 c5 c6 c7 c8 c9 c10 c11 c12 c13 c14 c15
    go_quiet (fail)
    go_wp2
    go_ret2
    exact ⟨rfl, hbe.drewN' _⟩
  · clear c0 c1 c2 c4 c5 c6 c7 c8 c9 c10 c11 c12 c13 c14 c15
    go_quiet (fail)
    go_wp2
    go_ret2
    exact ⟨rfl, hbe.drewN' _⟩
  · clear c0 c1 c2 c3 c5 c6 c7 c8 c9 c10 c11 c12 c13 c14 c15
    go_quiet (fail)
    go_wp2
    go_ret2
    exact ⟨rfl, hbe.drewN' _⟩
  · clear c0 c1 c2 c3 c4 c6 c7 c8 c9 c10 c11 c12 c13 c14 c15
    go_quiet (fail)
    go_wp2
    go_ret2
    exact ⟨rfl, hbe.drewN' _⟩
  · clear c0 c1 c2 c3 c4 c5 c7 c8 c9 c10 c11 c12 c13 c14 c15
    go_quiet (fail)
    go_wp2
    go_ret2
    exact ⟨rfl, hbe.drewN' _⟩
  · clear c0 c1 c2 c3 c4 c5 c6 c8 c9 c10 c11 c12 c13 c14 c15
    go_quiet (fail)
    go_wp2
    go_ret2
    exact ⟨rfl, hbe.drewN' _⟩
  · clear c0 c1 c2 c3 c4 c5 c6 c7 c9 c10 c11 c12 c13 c14 c15
    go_quiet (fail)
    go_wp2
    go_ret2
    exact ⟨rfl, hbe.drewN' _⟩
  · clear c0 c1 c2 c3 c4 c5 c6 c7 c8 c10 c11 c12 c13 c14 c15
    go_quiet (fail)
    go_wp2
    go_ret2
    exact ⟨rfl, hbe.drewN' _⟩
  · clear c0 c1 c2 c3 c4 c5 c6 c7 c8 c9 c11 c12 c13 c14 c15
    go_quiet (fail)
    go_wp2
    go_ret2
    exact ⟨rfl, hbe.drewN' _⟩
  · clear c0 c1 c2 c3 c4 c5 c6 c7 c8 c9 c10 c12 c13 c14 c15
    go_quiet (fail)
    go_wp2
    go_ret2
    exact ⟨rfl, hbe.drewN' _⟩
  · clear c0 c1 c2 c3 c4 c5 c6 c7 c8 c9 c10 c11 c13 c14 c15
    go_quiet (fail)
    go_wp2
    go_ret2
    exact ⟨rfl, hbe.drewN' _⟩
  · clear c0 c1 c2 c3 c4 c5 c6 c7 c8 c9 c10 c11 c12 c14 c15
    go_quiet (fail)
    go_wp2
    go_ret2
    exact ⟨rfl, hbe.drewN' _⟩
  · clear c0 c1 c2 c3 c4 c5 c6 c7 c8 c9 c10 c11 c12 c13 c15
    go_quiet (fail)
    go_wp2
    go_ret2
    exact ⟨rfl, hbe.drewN' _⟩
  · clear c0 c1 c2 c3 c4 c5 c6 c7 c8 c9 c10 c11 c12 c13 c14
    go_quiet (fail)
    go_wp2
    go_ret2
    exact ⟨rfl, hbe.drewN' _⟩
end Go.Proofs.YtgmepohfkpncmaaGreat
namespace Go.Proofs.YtgmepohfkpncmaaGreat
open Go.RowKit

theorem q_Norm (a b c d : Int) (w : World) (ha : I32 a) (hb : I32 b) (hc : I32 c) (hd : I32 d) :
    Calls Tryz.prog 110 #[.agg #[.int .i32 a, .int .i32 b, .int .i32 c, .int .i32 d]] w fun e w' => e = .returned (.int .u64 (sqP [a, b, c, d])) ∧ Below w.heap.size w w' := by
  have H1 := hid fun w => q_list a b c d w
  have H2 := hid fun (f : Nat) (w : World) (g : Nat) (h : Row .i32 w w.heap.size (some ⟨g, 0, none⟩) 4 [a, b, c, d]) => root_Squares (some ⟨g, 0, none⟩) 4 f [a, b, c, d] w h (by unfold I32 at *; simp; omega) (by omega)
  clear ha hb hc hd
  generalize sqP [a, b, c, d] = n at *
  go_enter Tryz.func110, Tryz.ntmps110
  go_wp2_with fail
  refine (H1.out _).mono ?_
  rintro e w1 ⟨rfl, b1⟩
  have hbe : Below w.heap.size w w1 := ((Below.refl _ w).alloc (Nat.le_refl _) _).trans (b1.mono (by simp))
  clear b1
  go_wp2_with fail
  refine (H2.out _ _ _ (Row.blk (Blk.new _ _ _) rfl (by simp))).mono ?_
  rintro e w2 ⟨rfl, rfl⟩
  go_wp2
  go_ret
  exact ⟨rfl, hbe.alloc hbe.size _⟩
end Go.Proofs.YtgmepohfkpncmaaGreat
namespace Go.Proofs.YtgmepohfkpncmaaGreat
open Go.RowKit

theorem r9_Times (a b f : Int) (w : World) (ha : I32 a) (hb : I32 b) (hf : I64 f) :
    Calls Tryz.prog 56 #[.int .i32 a, .int .i32 b, .int .i64 f] w fun e w' => e = .returned (.int .i64 (roundP (a * b) f)) ∧ w = w' := by
  have hm := mul_bd a b ha hb
  have H := hid (fxr_Round (a * b) f w (by unfold I64; omega) hf)
  obtain ⟨a1, a2⟩ := ha
  obtain ⟨b1, b2⟩ := hb
  generalize roundP (a * b) f = r at *
  go_enter Tryz.func56, Tryz.ntmps56
  go_wp2_with fail
  refine (H.out).mono ?_
  rintro e w' ⟨rfl, rfl⟩
  go_wp2
  go_ret
  exact ⟨rfl, rfl⟩
theorem r10_times (a b : Int) (w : World) (ha : I32 a) (hb : I32 b) :
    Calls Tryz.prog 92 #[.int .i32 a, .int .i32 b] w fun e w' => e = .returned (.int .i64 (tmP a b)) ∧ w = w' := by
  have H := hid (r9_Times a b 30 w ha hb (by unfold I64; omega))
  have HT : Hid (tmP a b = roundP (a * b) 30) := rfl
  generalize roundP (a * b) 30 = r at *
  clear ha hb
  go_enter Tryz.func92, Tryz.ntmps92
  go_wp2_with fail
  refine (H.out).mono ?_
  rintro e w' ⟨rfl, rfl⟩
  go_wp2
  go_ret
  exact ⟨by rw [HT.out]; rfl, rfl⟩

set_option maxHeartbeats 2000000 in
theorem r9_Cut (a b c : Int) (w : World) (ha : I64 a) (hb : I64 b) (hc : I64 c) :
    Calls Tryz.prog 24 #[.int .i64 a, .int .i64 b, .int .i64 c] w fun e w' =>
      e = .returned (.tuple #[.agg #[.int .i32 (clampP a), .int .i32 (clampP b), .int .i32 (clampP c)], .int .i64 (cutC a + cutC b + cutC c)]) ∧ Below w.heap.size w w' := by
  have h1a := fun w => fxr_Clamp a w ha
  have h1b := fun w => fxr_Clamp b w hb
  have h1c := fun w => fxr_Clamp c w hc
  have g1 : cutC a = if (clampP a != a) = true then 1 else 0 := rfl
  have g2 : cutC b = if (clampP b != b) = true then 1 else 0 := rfl
  have g3 : cutC c = if (clampP c != c) = true then 1 else 0 := rfl
  generalize (clampP a != a) = Ba at *
  generalize (clampP b != b) = Bb at *
  generalize (clampP c != c) = Bc at *
  clear ha hb hc
  cases Ba <;> cases Bb <;> cases Bc
  all_goals
    simp only [if_true, if_false, Bool.false_eq_true] at g1 g2 g3
    have HA := hid h1a
    have HB := hid h1b
    have HC := hid h1c
    have G1 := hid g1
    have G2 := hid g2
    have G3 := hid g3
    clear h1a h1b h1c g1 g2 g3
    go_enter Tryz.func24, Tryz.ntmps24
    go_wp2_with fail
    refine (HA.out _).mono ?_
    rintro e w' ⟨rfl, rfl⟩
    go_wp2_with fail
    refine (HB.out _).mono ?_
    rintro e w' ⟨rfl, rfl⟩
    go_wp2_with fail
    refine (HC.out _).mono ?_
    rintro e w' ⟨rfl, rfl⟩
    go_wp2
    rw [G1.out, G2.out, G3.out]
    simp [bodyPost, results, Tryz.results24, go_sem]
    exact (Below.refl _ w).alloc (Nat.le_refl _) _

set_option maxHeartbeats 2000000 in
theorem r10_Cut (d a b c : Int) (w : World) (hd : I64 d) (ha : I64 a) (hb : I64 b) (hc : I64 c) :
    Calls Tryz.prog 93 #[.int .i64 d, .int .i64 a, .int .i64 b, .int .i64 c] w fun e w' =>
      e = .returned (.tuple #[.agg #[.int .i32 (clampP d), .int .i32 (clampP a), .int .i32 (clampP b), .int .i32 (clampP c)], .int .i64 (cutC d + cutC a + cutC b + cutC c)]) ∧ Below w.heap.size w w' := by
  have H1 := hid fun w => r9_Cut a b c w ha hb hc
  have h2 := fun w => fxr_Clamp d w hd
  have g1 : cutC d = if (clampP d != d) = true then 1 else 0 := rfl
  have na := cutC_bd a
  have nb := cutC_bd b
  have nc := cutC_bd c
  have hs : ∀ m : Int, m = cutC d + cutC a + cutC b + cutC c → m = cutC d + cutC a + cutC b + cutC c := fun m h => h
  have hN : 0 ≤ cutC a + cutC b + cutC c ∧ cutC a + cutC b + cutC c ≤ 3 := by omega
  obtain ⟨N1, N2⟩ := hN
  have hE : cutC d + cutC a + cutC b + cutC c = cutC a + cutC b + cutC c + cutC d := by omega
  rw [hE]
  generalize cutC a + cutC b + cutC c = N at *
  generalize clampP a = x at *
  generalize clampP b = y at *
  generalize clampP c = z at *
  generalize (clampP d != d) = Bd at *
  generalize clampP d = v at *
  clear ha hb hc hd na nb nc hs hE
  cases Bd
  all_goals
    simp only [if_true, if_false, Bool.false_eq_true] at g1
    have H2 := hid h2
    have G1 := hid g1
    clear h2 g1
    go_enter Tryz.func93, Tryz.ntmps93
    go_wp2_with fail
    refine (H1.out _).mono ?_
    rintro e w1 ⟨rfl, b1⟩
    have hb1 : Blk w1 w.heap.size 23 #[.int .i32 0, .int .i32 0, .int .i32 0, .int .i32 0] := (Blk.new w _ _).below b1 (by simp)
    have hbe : Below w.heap.size w w1 := ((Below.refl _ w).alloc (Nat.le_refl _) _).trans (b1.mono (by simp))
    clear b1
    have hlt := hb1.lt
    go_wp2_with fail
    refine (H2.out _).mono ?_
    rintro e w' ⟨rfl, rfl⟩
    have hb2 := hb1.alloc (.cells #[.int .i32 x, .int .i32 y, .int .i32 z] 25)
    have hk := Blk.new w1 25 #[.int .i32 x, .int .i32 y, .int .i32 z]
    have hbe2 := hbe.alloc hbe.size (.cells #[.int .i32 x, .int .i32 y, .int .i32 z] 25)
    clear hb1 hbe
    generalize hw2 : w1.alloc (.cells #[.int .i32 x, .int .i32 y, .int .i32 z] 25) = w2 at *
    clear hw2
    have x0 : w2.cell? ⟨w1.heap.size, 0, none⟩ = some (.int .i32 x) := hk.cell 0
    have x1 : w2.cell? ⟨w1.heap.size, 1, none⟩ = some (.int .i32 y) := hk.cell 1
    have x2 : w2.cell? ⟨w1.heap.size, 2, none⟩ = some (.int .i32 z) := hk.cell 2
    have y0 : w2.cell? ⟨w.heap.size, 0, none⟩ = some (.int .i32 0) := hb2.cell 0
    have y1 : w2.cell? ⟨w.heap.size, 1, none⟩ = some (.int .i32 0) := hb2.cell 1
    have y2 : w2.cell? ⟨w.heap.size, 2, none⟩ = some (.int .i32 0) := hb2.cell 2
    have y3 : w2.cell? ⟨w.heap.size, 3, none⟩ = some (.int .i32 0) := hb2.cell 3
    have v0 := hb2.frozen 0
    have v1 := hb2.frozen 1
    have v2 := hb2.frozen 2
    have v3 := hb2.frozen 3
    go_wp2
    have hb9 := (((hb2.set_ 0 (.int .i32 v)).set_ 1 (.int .i32 x)).set_ 2 (.int .i32 y)).set_ 3 (.int .i32 z)
    have hbf : Below w.heap.size w ((((w2.setCell ⟨w.heap.size, 0, none⟩ (.int .i32 v)).setCell ⟨w.heap.size, 1, none⟩ (.int .i32 x)).setCell ⟨w.heap.size, 2, none⟩ (.int .i32 y)).setCell ⟨w.heap.size, 3, none⟩ (.int .i32 z)) := (((hbe2.setCell (by simp) _).setCell (by simp) _).setCell (by simp) _).setCell (by simp) _
    generalize (((w2.setCell ⟨w.heap.size, 0, none⟩ (.int .i32 v)).setCell ⟨w.heap.size, 1, none⟩ (.int .i32 x)).setCell ⟨w.heap.size, 2, none⟩ (.int .i32 y)).setCell ⟨w.heap.size, 3, none⟩ (.int .i32 z) = W at *
    have e0 : W.cell? ⟨w.heap.size, 0, none⟩ = some (.int .i32 v) := hb9.cell 0
    have e1 : W.cell? ⟨w.heap.size, 1, none⟩ = some (.int .i32 x) := hb9.cell 1
    have e2 : W.cell? ⟨w.heap.size, 2, none⟩ = some (.int .i32 y) := hb9.cell 2
    have e3 : W.cell? ⟨w.heap.size, 3, none⟩ = some (.int .i32 z) := hb9.cell 3
    clear hb9 hb2 y0 y1 y2 y3 x0 x1 x2
    rw [G1.out]
    simp [bodyPost, results, Tryz.results93, go_sem, e0, e1, e2, e3]
    exact hbf
end Go.Proofs.YtgmepohfkpncmaaGreat
