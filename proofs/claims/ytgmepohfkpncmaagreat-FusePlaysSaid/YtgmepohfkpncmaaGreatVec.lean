/- Chapter 09: vectors: the parts; what counts what is cut; three numbers told by their places. -/
import Derived.Test.YtgmepohfkpncmaaGreatQuatE
import Derived.Test.YtgmepohfkpncmaaGreatHeld
import Derived.Laws.EntriesVeiled
namespace Go.Proofs.YtgmepohfkpncmaaGreat
open Go.RowKit
set_option linter.unusedVariables false
set_option linter.unusedSimpArgs false

theorem v_parts (a b c : Int) (w : World) :
    Calls Tryz.prog 38 #[.agg #[.int .i32 a, .int .i32 b, .int .i32 c]] w fun e w' => e = .returned (.agg #[.int .i32 a, .int .i32 b, .int .i32 c]) ∧ Below w.heap.size w w' := by
  go_enter Tryz.func38, Tryz.ntmps38
  go_wp2
  simp [bodyPost, results, Tryz.results38, go_sem]
  exact ((Below.refl _ w).alloc (Nat.le_refl _) _).alloc (by simp) _

def tvP (a b : Int) : Int := roundP (a * b) 16
theorem v_times (a b : Int) (w : World) (ha : I32 a) (hb : I32 b) :
    Calls Tryz.prog 88 #[.int .i32 a, .int .i32 b] w fun e w' => e = .returned (.int .i64 (tvP a b)) ∧ Below w.heap.size w w' := by
  have hm := mul_bd a b ha hb
  have H := hid fun w => fx_Round (a * b) 16 w (by unfold I64; omega) (by unfold I64; omega)
  have HT : Hid (tvP a b = roundP (a * b) 16) := rfl
  obtain ⟨a1, a2⟩ := ha
  obtain ⟨b1, b2⟩ := hb
  generalize roundP (a * b) 16 = r at *
  go_enter Tryz.func88, Tryz.ntmps88
  go_wp2_with fail
  refine (H.out _).mono ?_
  rintro e w' ⟨rfl, hb⟩
  go_wp2
  go_ret
  exact ⟨by rw [HT.out]; rfl, hb⟩

/-- Where a number goes that is cut, and counted. -/
theorem c_cut (g : Nat) (n x : Int) (w : World) (hx : I64 x) (hn : 0 ≤ n ∧ n ≤ 1000) (hB : Blk w g 109 #[.func (.func 47) #[] #[], .int .i64 n]) :
    Calls Tryz.prog 77 #[.pointer (some ⟨g, 0, none⟩), .int .i64 x] w fun e w' => e = .returned (.int .i32 (clampP x)) ∧ Blk w' g 109 #[.func (.func 47) #[] #[], .int .i64 (n + cutC x)] ∧ w.grownBy w' (some g) := by
  have H := hid fun w => fx_Clamp x w hx
  have c0 : w.cell? ⟨g, 0, none⟩ = some (.func (.func 47) #[] #[]) := hB.cell 0
  have h2 := hid (@cutC_yes x)
  have h3 := hid (@cutC_no x)
  have hg := hB.lt
  cases hC : (clampP x != x)
  · have e1 := h3.out hC
    have HE : Hid (n + cutC x = n) := hid (by rw [e1]; omega)
    rw [hC] at H
    clear hC e1 h2 h3 hx
    generalize clampP x = y at *
    go_enter Tryz.func77, Tryz.ntmps77
    go_wp2_with fail
    refine (H.out _).mono ?_
    rintro e w' ⟨rfl, rfl⟩
    go_wp2
    go_ret
    exact ⟨rfl, by rw [HE.out]; exact hB, World.grownBy.refl _ _⟩
  · have e1 := h2.out hC
    have HE : Hid (n + cutC x = n + 1) := hid (by rw [e1])
    rw [hC] at H
    clear hC e1 h2 h3 hx
    generalize clampP x = y at *
    have c1 : w.cell? ⟨g, 1, none⟩ = some (.int .i64 n) := hB.cell 1
    have z1 := hB.frozen 1
    have u1 : IntKind.i64.wrap (n + 1) = n + 1 := IntWalk.i64_in _ (by omega)
    go_enter Tryz.func77, Tryz.ntmps77
    go_wp2_with fail
    refine (H.out _).mono ?_
    rintro e w' ⟨rfl, rfl⟩
    go_wp2
    go_ret
    exact ⟨rfl, by rw [HE.out]; exact hB.set_ 1 _, only_set (World.grownBy.refl _ _) 1 _⟩

end Go.Proofs.YtgmepohfkpncmaaGreat
