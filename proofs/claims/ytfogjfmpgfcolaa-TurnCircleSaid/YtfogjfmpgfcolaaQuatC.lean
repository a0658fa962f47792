/- Chapter 10: quaternions: to which part a product of two parts goes, and with which sign. -/
import Derived.Test.YtfogjfmpgfcolaaQuatB
namespace Go.Proofs.Ytfogjfmpgfcolaa
open Go.RowKit

theorem q_place (i j x s : Int) (w : World) (h : (i = 0 ∧ j = 0 ∧ x = 0 ∧ s = 1) ∨
    (i = 0 ∧ j = 1 ∧ x = 1 ∧ s = 1) ∨
    (i = 0 ∧ j = 2 ∧ x = 2 ∧ s = 1) ∨
    (i = 0 ∧ j = 3 ∧ x = 3 ∧ s = 1) ∨
    (i = 1 ∧ j = 0 ∧ x = 1 ∧ s = 1) ∨
    (i = 1 ∧ j = 1 ∧ x = 0 ∧ s = -1) ∨
    (i = 1 ∧ j = 2 ∧ x = 3 ∧ s = 1) ∨
    (i = 1 ∧ j = 3 ∧ x = 2 ∧ s = -1) ∨
    (i = 2 ∧ j = 0 ∧ x = 2 ∧ s = 1) ∨
    (i = 2 ∧ j = 1 ∧ x = 3 ∧ s = -1) ∨
    (i = 2 ∧ j = 2 ∧ x = 0 ∧ s = -1) ∨
    (i = 2 ∧ j = 3 ∧ x = 1 ∧ s = 1) ∨
    (i = 3 ∧ j = 0 ∧ x = 3 ∧ s = 1) ∨
    (i = 3 ∧ j = 1 ∧ x = 2 ∧ s = 1) ∨
    (i = 3 ∧ j = 2 ∧ x = 1 ∧ s = -1) ∨
    (i = 3 ∧ j = 3 ∧ x = 0 ∧ s = -1)) :
    Calls Try.prog 103 #[.int .i64 i, .int .i64 j] w fun e w' => e = .returned (.tuple #[.int .i64 x, .int .i64 s]) ∧ Below w.heap.size w w' := by
  have H := hid h
  clear h
  go_enter Try.func103, Try.ntmps103
  go_wp2
  have hb := Blk.new w 124 #[.int .i64 1, .int .i64 1, .int .i64 1, .int .i64 1, .int .i64 1, .int .i64 (-1), .int .i64 1, .int .i64 (-1), .int .i64 1, .int .i64 (-1), .int .i64 (-1), .int .i64 1, .int .i64 1, .int .i64 1, .int .i64 (-1), .int .i64 (-1)]
  have hbe : Below w.heap.size w (w.alloc (.cells #[.int .i64 1, .int .i64 1, .int .i64 1, .int .i64 1, .int .i64 1, .int .i64 (-1), .int .i64 1, .int .i64 (-1), .int .i64 1, .int .i64 (-1), .int .i64 (-1), .int .i64 1, .int .i64 1, .int .i64 1, .int .i64 (-1), .int .i64 (-1)] 124)) := (Below.refl _ w).alloc (Nat.le_refl _) _
  generalize w.alloc (.cells #[.int .i64 1, .int .i64 1, .int .i64 1, .int .i64 1, .int .i64 1, .int .i64 (-1), .int .i64 1, .int .i64 (-1), .int .i64 1, .int .i64 (-1), .int .i64 (-1), .int .i64 1, .int .i64 1, .int .i64 1, .int .i64 (-1), .int .i64 (-1)] 124) = W at *
  have c0 : W.cell? ⟨w.heap.size, 0, none⟩ = some (.int .i64 (1)) := hb.cell 0
  have c1 : W.cell? ⟨w.heap.size, 1, none⟩ = some (.int .i64 (1)) := hb.cell 1
  have c2 : W.cell? ⟨w.heap.size, 2, none⟩ = some (.int .i64 (1)) := hb.cell 2
  have c3 : W.cell? ⟨w.heap.size, 3, none⟩ = some (.int .i64 (1)) := hb.cell 3
  have c4 : W.cell? ⟨w.heap.size, 4, none⟩ = some (.int .i64 (1)) := hb.cell 4
  have c5 : W.cell? ⟨w.heap.size, 5, none⟩ = some (.int .i64 (-1)) := hb.cell 5
  have c6 : W.cell? ⟨w.heap.size, 6, none⟩ = some (.int .i64 (1)) := hb.cell 6
  have c7 : W.cell? ⟨w.heap.size, 7, none⟩ = some (.int .i64 (-1)) := hb.cell 7
  have c8 : W.cell? ⟨w.heap.size, 8, none⟩ = some (.int .i64 (1)) := hb.cell 8
  have c9 : W.cell? ⟨w.heap.size, 9, none⟩ = some (.int .i64 (-1)) := hb.cell 9
  have c10 : W.cell? ⟨w.heap.size, 10, none⟩ = some (.int .i64 (-1)) := hb.cell 10
  have c11 : W.cell? ⟨w.heap.size, 11, none⟩ = some (.int .i64 (1)) := hb.cell 11
  have c12 : W.cell? ⟨w.heap.size, 12, none⟩ = some (.int .i64 (1)) := hb.cell 12
  have c13 : W.cell? ⟨w.heap.size, 13, none⟩ = some (.int .i64 (1)) := hb.cell 13
  have c14 : W.cell? ⟨w.heap.size, 14, none⟩ = some (.int .i64 (-1)) := hb.cell 14
  have c15 : W.cell? ⟨w.heap.size, 15, none⟩ = some (.int .i64 (-1)) := hb.cell 15
  clear hb
  rcases H.out with ⟨rfl, rfl, rfl, rfl⟩ | ⟨rfl, rfl, rfl, rfl⟩ | ⟨rfl, rfl, rfl, rfl⟩ | ⟨rfl, rfl, rfl, rfl⟩ | ⟨rfl, rfl, rfl, rfl⟩ | ⟨rfl, rfl, rfl, rfl⟩ | ⟨rfl, rfl, rfl, rfl⟩ | ⟨rfl, rfl, rfl, rfl⟩ | ⟨rfl, rfl, rfl, rfl⟩ | ⟨rfl, rfl, rfl, rfl⟩ | ⟨rfl, rfl, rfl, rfl⟩ | ⟨rfl, rfl, rfl, rfl⟩ | ⟨rfl, rfl, rfl, rfl⟩ | ⟨rfl, rfl, rfl, rfl⟩ | ⟨rfl, rfl, rfl, rfl⟩ | ⟨rfl, rfl, rfl, rfl⟩
  · clear c1 c2 c3 c4 c5 c6 c7 c8 c9 c10 c11 c12 c13 c14 c15
    go_quiet (fail)
    go_wp2
    go_ret2
    exact ⟨rfl, hbe.drewN' _⟩
  · clear c0 c2 c3 c4 c5 c6 c7 c8 c9 c10 c11 c12 c13 c14 c15
    go_quiet (fail)
    go_wp2
    go_ret2
    exact ⟨rfl, hbe.drewN' _⟩
  · clear c0 c1 c3 c4 c5 c6 c7 c8 c9 c10 c11 c12 c13 c14 c15
    go_quiet (fail)
    go_wp2
    go_ret2
    exact ⟨rfl, hbe.drewN' _⟩
  · clear c0 c1 c2 c4 c5 c6 c7 c8 c9 c10 c11 c12 c13 c14 c15
    go_quiet (fail)
    go_wp2
    go_ret2
    exact ⟨rfl, hbe.drewN' _⟩
  · clear c0 c1 c2 c3 c5 c6 c7 c8 c9 c10 c11 c12 c13 c14 c15
    go_quiet (fail)
    go_wp2
    go_ret2
    exact ⟨rfl, hbe.drewN' _⟩
  · clear c0 c1 c2 c3 c4 c6 c7 c8 c9 c10 c11 c12 c13 c14 c15
    go_quiet (fail)
    go_wp2
    go_ret2
    exact ⟨rfl, hbe.drewN' _⟩
  · clear c0 c1 c2 c3 c4 c5 c7 c8 c9 c10 c11 c12 c13 c14 c15
    go_quiet (fail)
    go_wp2
    go_ret2
    exact ⟨rfl, hbe.drewN' _⟩
  · clear c0 c1 c2 c3 c4 c5 c6 c8 c9 c10 c11 c12 c13 c14 c15
    go_quiet (fail)
    go_wp2
    go_ret2
    exact ⟨rfl, hbe.drewN' _⟩
  · clear c0 c1 c2 c3 c4 c5 c6 c7 c9 c10 c11 c12 c13 c14 c15
    go_quiet (fail)
    go_wp2
    go_ret2
    exact ⟨rfl, hbe.drewN' _⟩
  · clear c0 c1 c2 c3 c4 c5 c6 c7 c8 c10 c11 c12 c13 c14 c15
    go_quiet (fail)
    go_wp2
    go_ret2
    exact ⟨rfl, hbe.drewN' _⟩
  · clear c0 c1 c2 c3 c4 c5 c6 c7 c8 c9 c11 c12 c13 c14 c15
    go_quiet (fail)
    go_wp2
    go_ret2
    exact ⟨rfl, hbe.drewN' _⟩
  · clear c0 c1 c2 c3 c4 c5 c6 c7 c8 c9 c10 c12 c13 c14 c15
    go_quiet (fail)
    go_wp2
    go_ret2
    exact ⟨rfl, hbe.drewN' _⟩
  · clear c0 c1 c2 c3 c4 c5 c6 c7 c8 c9 c10 c11 c13 c14 c15
    go_quiet (fail)
    go_wp2
    go_ret2
    exact ⟨rfl, hbe.drewN' _⟩
  · clear c0 c1 c2 c3 c4 c5 c6 c7 c8 c9 c10 c11 c12 c14 c15
    go_quiet (fail)
    go_wp2
    go_ret2
    exact ⟨rfl, hbe.drewN' _⟩
  · clear c0 c1 c2 c3 c4 c5 c6 c7 c8 c9 c10 c11 c12 c13 c15
    go_quiet (fail)
    go_wp2
    go_ret2
    exact ⟨rfl, hbe.drewN' _⟩
  · clear c0 c1 c2 c3 c4 c5 c6 c7 c8 c9 c10 c11 c12 c13 c14
    go_quiet (fail)
    go_wp2
    go_ret2
    exact ⟨rfl, hbe.drewN' _⟩
end Go.Proofs.Ytfogjfmpgfcolaa
