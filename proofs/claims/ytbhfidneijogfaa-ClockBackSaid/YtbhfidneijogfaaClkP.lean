/- Chapter 24: TakeDate. -/
import Derived.Test.YtbhfidneijogfaaClkO
namespace Go.Proofs.Ytbhfidneijogfaa
open Go.RowKit
set_option linter.unusedVariables false
set_option linter.unusedSimpArgs false
attribute [local go_sem] Oper.semAt_some
def tdB (s : ByteArray) : Bool := decide (s.size = 0) || sixB s
def tdM (s : ByteArray) : Bool := decide (s.size = 0) || mayDP true (valP (pairsL s) 0) (valP (pairsL s) 1) (2000 + valP (pairsL s) 2)
def takeDC (s : ByteArray) : Value := if s.size ≠ 0 ∧ tdB s = true ∧ tdM s = true then .agg #[.bool true, .int .i64 (valP (pairsL s) 0), .int .i64 (valP (pairsL s) 1), .int .i64 (2000 + valP (pairsL s) 2)] else .agg #[.bool false, .int .i64 0, .int .i64 0, .int .i64 0]
def takeDE (s : ByteArray) : Int := if tdB s = false then 3 else if tdM s = false then 5 else 0
def TakenD (s : ByteArray) (w : World) (e : Ending) (w' : World) : Prop := e = .returned (.tuple #[takeDC s, .int .i64 (takeDE s)]) ∧ Below w.heap.size w w'
theorem td_results (w : World) (tmps : Array Value) (g : Nat) (a0 a1 a2 a3 v : Value) (h2 : tmps.getD 2 undef = .pointer (some ⟨g, 0, none⟩)) (h3 : tmps.getD 3 undef = v)
    (hg : Blk w g 60 #[a0, a1, a2, a3]) : (results Try.f50 tmps).run Try.prog w = .ok (.tuple #[.agg #[a0, a1, a2, a3], v]) w := by
  have f0 := hg.cell 0
  have f1 := hg.cell 1
  have f2 := hg.cell 2
  have f3 := hg.cell 3
  simp at f0 f1 f2 f3
  simp at h2 h3
  simp only [results, Try.f50]
  simp [h2, h3]
  go_simp
theorem rtd_results (w : World) (tmps : Array Value) (g : Nat) (a0 a1 a2 a3 v : Value) (h2 : tmps.getD 2 undef = .pointer (some ⟨g, 0, none⟩)) (h3 : tmps.getD 3 undef = v)
    (hg : Blk w g 60 #[a0, a1, a2, a3]) : (results Try.f51 tmps).run Try.prog w = .ok (.tuple #[.agg #[a0, a1, a2, a3], v]) w := by
  have f0 := hg.cell 0
  have f1 := hg.cell 1
  have f2 := hg.cell 2
  have f3 := hg.cell 3
  simp at f0 f1 f2 f3
  simp at h2 h3
  simp only [results, Try.f51]
  simp [h2, h3]
  go_simp
set_option maxRecDepth 20000 in
set_option maxHeartbeats 8000000 in
theorem c_takeD0 (s : ByteArray) (w : World) (hs0 : s.size ≤ 100) (hz : s.size = 0) : Calls Try.prog 50 #[.string s] w (TakenD s w) := by
  have HC : Hid (takeDC s = .agg #[.bool false, .int .i64 0, .int .i64 0, .int .i64 0]) := hid (by unfold takeDC; rw [if_neg (by omega)])
  have HE : Hid (takeDE s = 0) := hid (by unfold takeDE tdB tdM; simp [hz])
  have he := empty_is s hz
  have he2 : s.toList.isEmpty = true := by rw [he]; rfl
  clear hz
  have e2 := Blk.new w 60 #[.bool false, .int .i64 0, .int .i64 0, .int .i64 0]
  have hb := (Below.refl w.heap.size w).alloc (Nat.le_refl _) (.cells #[.bool false, .int .i64 0, .int .i64 0, .int .i64 0] 60)
  go_enter Try.func50, Try.ntmps50
  go_upto_region 1 with (fail)
  generalize w.alloc (.cells #[.bool false, .int .i64 0, .int .i64 0, .int .i64 0] 60) = W at *
  have c0 : (W).cell? ⟨w.heap.size, 0, none⟩ = some (.bool false) := e2.cell 0
  have c1 : (W).cell? ⟨w.heap.size, 1, none⟩ = some (.int .i64 0) := e2.cell 1
  have c2 : (W).cell? ⟨w.heap.size, 2, none⟩ = some (.int .i64 0) := e2.cell 2
  have c3 : (W).cell? ⟨w.heap.size, 3, none⟩ = some (.int .i64 0) := e2.cell 3
  have z0 := e2.frozen 0
  have z1 := e2.frozen 1
  have z2 := e2.frozen 2
  have z3 := e2.frozen 3
  go_wp2_with fail
  have t2 := ((((e2.set_ 0 (.bool false)).set_ 1 (.int .i64 0)).set_ 2 (.int .i64 0)).set_ 3 (.int .i64 0))
  have tb := ((((hb.setCell (p := ⟨w.heap.size, 0, none⟩) (by simp) (.bool false)).setCell (p := ⟨w.heap.size, 1, none⟩) (by simp) (.int .i64 0)).setCell (p := ⟨w.heap.size, 2, none⟩) (by simp) (.int .i64 0)).setCell (p := ⟨w.heap.size, 3, none⟩) (by simp) (.int .i64 0))
  refine bodyPost_ret (td_results _ _ w.heap.size _ _ _ _ _ rfl rfl t2) rfl ⟨?_, tb⟩
  rw [HC.out, HE.out]
  rfl
set_option maxRecDepth 20000 in
set_option maxHeartbeats 8000000 in
theorem r_takeD0 (s : ByteArray) (w : World) (hs0 : s.size ≤ 100) (hz : s.size = 0) : Calls Try.prog 51 #[.string s] w (TakenD s w) := by
  have HC : Hid (takeDC s = .agg #[.bool false, .int .i64 0, .int .i64 0, .int .i64 0]) := hid (by unfold takeDC; rw [if_neg (by omega)])
  have HE : Hid (takeDE s = 0) := hid (by unfold takeDE tdB tdM; simp [hz])
  have he := empty_is s hz
  have he2 : s.toList.isEmpty = true := by rw [he]; rfl
  clear hz
  have e2 := Blk.new w 60 #[.bool false, .int .i64 0, .int .i64 0, .int .i64 0]
  have hb := (Below.refl w.heap.size w).alloc (Nat.le_refl _) (.cells #[.bool false, .int .i64 0, .int .i64 0, .int .i64 0] 60)
  go_enter Try.func51, Try.ntmps51
  go_upto_region 1 with (fail)
  generalize w.alloc (.cells #[.bool false, .int .i64 0, .int .i64 0, .int .i64 0] 60) = W at *
  have c0 : (W).cell? ⟨w.heap.size, 0, none⟩ = some (.bool false) := e2.cell 0
  have c1 : (W).cell? ⟨w.heap.size, 1, none⟩ = some (.int .i64 0) := e2.cell 1
  have c2 : (W).cell? ⟨w.heap.size, 2, none⟩ = some (.int .i64 0) := e2.cell 2
  have c3 : (W).cell? ⟨w.heap.size, 3, none⟩ = some (.int .i64 0) := e2.cell 3
  have z0 := e2.frozen 0
  have z1 := e2.frozen 1
  have z2 := e2.frozen 2
  have z3 := e2.frozen 3
  go_wp2_with fail
  have t2 := ((((e2.set_ 0 (.bool false)).set_ 1 (.int .i64 0)).set_ 2 (.int .i64 0)).set_ 3 (.int .i64 0))
  have tb := ((((hb.setCell (p := ⟨w.heap.size, 0, none⟩) (by simp) (.bool false)).setCell (p := ⟨w.heap.size, 1, none⟩) (by simp) (.int .i64 0)).setCell (p := ⟨w.heap.size, 2, none⟩) (by simp) (.int .i64 0)).setCell (p := ⟨w.heap.size, 3, none⟩) (by simp) (.int .i64 0))
  refine bodyPost_ret (rtd_results _ _ w.heap.size _ _ _ _ _ rfl rfl t2) rfl ⟨?_, tb⟩
  rw [HC.out, HE.out]
  rfl
set_option maxRecDepth 20000 in
set_option maxHeartbeats 8000000 in
theorem c_takeD1 (s : ByteArray) (w : World) (hs0 : s.size ≤ 100) (hz : s.size ≠ 0) : Calls Try.prog 50 #[.string s] w (TakenD s w) := by
  have he := empty_no s hz
  have HC0 : Hid (takeDC s = if sixB s = true ∧ tdM s = true then .agg #[.bool true, .int .i64 (valP (pairsL s) 0), .int .i64 (valP (pairsL s) 1), .int .i64 (2000 + valP (pairsL s) 2)] else .agg #[.bool false, .int .i64 0, .int .i64 0, .int .i64 0]) := hid (by unfold takeDC tdB; simp [hz])
  have HB : Hid (tdB s = sixB s) := hid (by unfold tdB; simp [hz])
  have HM : Hid (tdM s = mayDP true (valP (pairsL s) 0) (valP (pairsL s) 1) (2000 + valP (pairsL s) 2)) := hid (by unfold tdM; simp [hz])
  have vb0 := dig_bd3 s 0
  have vb1 := dig_bd3 s 1
  have vb2 := dig_bd3 s 2
  have hH := hid (fun w => c_three s w)
  unfold Three at hH
  obtain ⟨v0, hv0⟩ : ∃ v, valP (pairsL s) 0 = v := ⟨_, rfl⟩
  obtain ⟨v1, hv1⟩ : ∃ v, valP (pairsL s) 1 = v := ⟨_, rfl⟩
  obtain ⟨v2, hv2⟩ : ∃ v, valP (pairsL s) 2 = v := ⟨_, rfl⟩
  rw [hv0] at vb0
  rw [hv1] at vb1
  rw [hv2] at vb2
  rw [hv0, hv1, hv2] at HC0 HM
  simp only [hv0, hv1, hv2] at hH
  clear hv0 hv1 hv2 hz
  have HMY := hid fun w => c_mayDate true v0 v1 (2000 + v2) w (by unfold I64; omega) (by unfold I64; omega)
  obtain ⟨my, hmy⟩ : ∃ v, mayDP true v0 v1 (2000 + v2) = v := ⟨_, rfl⟩
  rw [hmy] at HM HMY
  clear hmy
  have uy : IntKind.i64.wrap (2000 + v2) = 2000 + v2 := IntWalk.i64_in _ (by omega)
  have e2 := Blk.new w 60 #[.bool false, .int .i64 0, .int .i64 0, .int .i64 0]
  have hb := (Below.refl w.heap.size w).alloc (Nat.le_refl _) (.cells #[.bool false, .int .i64 0, .int .i64 0, .int .i64 0] 60)
  go_enter Try.func50, Try.ntmps50
  go_wp2_with fail
  generalize w.alloc (.cells #[.bool false, .int .i64 0, .int .i64 0, .int .i64 0] 60) = W0 at *
  refine (hH.out _).mono ?_
  rintro e w1 (⟨hsx, rfl, b1⟩ | ⟨hsx, ⟨a, b, c, rfl⟩, b1⟩)
  · replace e2 := (e2.below b1 e2.lt).alloc (.cells #[.int .i64 v0, .int .i64 v1, .int .i64 v2] 94)
    replace hb := hb.trans (b1.mono hb.size)
    have hlw := hb.size
    have e5 := Blk.new w1 94 #[.int .i64 v0, .int .i64 v1, .int .i64 v2]
    replace hb := hb.alloc hb.size (.cells #[.int .i64 v0, .int .i64 v1, .int .i64 v2] 94)
    go_upto_region 6 with (fail)
    generalize w1.alloc (.cells #[.int .i64 v0, .int .i64 v1, .int .i64 v2] 94) = W1 at *
    generalize w1.heap.size = g5 at *
    have c0 : W1.cell? ⟨g5, 0, none⟩ = some (.int .i64 v0) := e5.cell 0
    have c1 : W1.cell? ⟨g5, 1, none⟩ = some (.int .i64 v1) := e5.cell 1
    have c2 : W1.cell? ⟨g5, 2, none⟩ = some (.int .i64 v2) := e5.cell 2
    have hlw2 := hb.size
    have e2l := e2.lt
    have e2a := e2.alloc (.cells #[.bool true, .int .i64 v0, .int .i64 v1, .int .i64 (2000 + v2)] 60)
    have e9 := Blk.new W1 60 #[.bool true, .int .i64 v0, .int .i64 v1, .int .i64 (2000 + v2)]
    have hba := hb.alloc hb.size (.cells #[.bool true, .int .i64 v0, .int .i64 v1, .int .i64 (2000 + v2)] 60)
    have k0 : (W1.alloc (.cells #[.bool true, .int .i64 v0, .int .i64 v1, .int .i64 (2000 + v2)] 60)).cell? ⟨W1.heap.size, 0, none⟩ = some (.bool true) := e9.cell 0
    have k1 : (W1.alloc (.cells #[.bool true, .int .i64 v0, .int .i64 v1, .int .i64 (2000 + v2)] 60)).cell? ⟨W1.heap.size, 1, none⟩ = some (.int .i64 v0) := e9.cell 1
    have k2 : (W1.alloc (.cells #[.bool true, .int .i64 v0, .int .i64 v1, .int .i64 (2000 + v2)] 60)).cell? ⟨W1.heap.size, 2, none⟩ = some (.int .i64 v1) := e9.cell 2
    have k3 : (W1.alloc (.cells #[.bool true, .int .i64 v0, .int .i64 v1, .int .i64 (2000 + v2)] 60)).cell? ⟨W1.heap.size, 3, none⟩ = some (.int .i64 (2000 + v2)) := e9.cell 3
    go_wp2_with fail
    clear c0 c1 c2 k0 k1 k2 k3 e2 hb e5
    generalize W1.alloc (.cells #[.bool true, .int .i64 v0, .int .i64 v1, .int .i64 (2000 + v2)] 60) = W2 at *
    generalize W1.heap.size = g9 at *
    refine (HMY.out _).mono ?_
    rintro e w3 ⟨rfl, b3⟩
    have e2 := e2a.below b3 e2a.lt
    replace e9 := e9.below b3 e9.lt
    have hb := hba.trans (b3.mono hba.size)
    clear e2a hba b3
    cases my
    · have HC : Hid (takeDC s = .agg #[.bool false, .int .i64 0, .int .i64 0, .int .i64 0]) := hid (by rw [HC0.out, HM.out, if_neg (by simp)])
      have HE : Hid (takeDE s = 5) := hid (by unfold takeDE; rw [HB.out, hsx, HM.out]; rfl)
      clear hsx
      go_upto_region 8 with (fail)
      have c0 : (w3).cell? ⟨w.heap.size, 0, none⟩ = some (.bool false) := e2.cell 0
      have c1 : (w3).cell? ⟨w.heap.size, 1, none⟩ = some (.int .i64 0) := e2.cell 1
      have c2 : (w3).cell? ⟨w.heap.size, 2, none⟩ = some (.int .i64 0) := e2.cell 2
      have c3 : (w3).cell? ⟨w.heap.size, 3, none⟩ = some (.int .i64 0) := e2.cell 3
      have z0 := e2.frozen 0
      have z1 := e2.frozen 1
      have z2 := e2.frozen 2
      have z3 := e2.frozen 3
      go_wp2_with fail
      have t2 := ((((e2.set_ 0 (.bool false)).set_ 1 (.int .i64 0)).set_ 2 (.int .i64 0)).set_ 3 (.int .i64 0))
      have tb := ((((hb.setCell (p := ⟨w.heap.size, 0, none⟩) (by simp) (.bool false)).setCell (p := ⟨w.heap.size, 1, none⟩) (by simp) (.int .i64 0)).setCell (p := ⟨w.heap.size, 2, none⟩) (by simp) (.int .i64 0)).setCell (p := ⟨w.heap.size, 3, none⟩) (by simp) (.int .i64 0))
      refine bodyPost_ret (td_results _ _ w.heap.size _ _ _ _ _ rfl rfl t2) rfl ⟨?_, tb⟩
      rw [HC.out, HE.out]
      rfl
    · have HC : Hid (takeDC s = .agg #[.bool true, .int .i64 v0, .int .i64 v1, .int .i64 (2000 + v2)]) := hid (by rw [HC0.out, HM.out, if_pos ⟨hsx, rfl⟩])
      have HE : Hid (takeDE s = 0) := hid (by unfold takeDE; rw [HB.out, hsx, HM.out]; rfl)
      clear hsx
      go_upto_region 9 with (fail)
      have k0 : (w3).cell? ⟨g9, 0, none⟩ = some (.bool true) := e9.cell 0
      have k1 : (w3).cell? ⟨g9, 1, none⟩ = some (.int .i64 v0) := e9.cell 1
      have k2 : (w3).cell? ⟨g9, 2, none⟩ = some (.int .i64 v1) := e9.cell 2
      have k3 : (w3).cell? ⟨g9, 3, none⟩ = some (.int .i64 (2000 + v2)) := e9.cell 3
      have c0 : (w3).cell? ⟨w.heap.size, 0, none⟩ = some (.bool false) := e2.cell 0
      have c1 : (w3).cell? ⟨w.heap.size, 1, none⟩ = some (.int .i64 0) := e2.cell 1
      have c2 : (w3).cell? ⟨w.heap.size, 2, none⟩ = some (.int .i64 0) := e2.cell 2
      have c3 : (w3).cell? ⟨w.heap.size, 3, none⟩ = some (.int .i64 0) := e2.cell 3
      have z0 := e2.frozen 0
      have z1 := e2.frozen 1
      have z2 := e2.frozen 2
      have z3 := e2.frozen 3
      go_wp2_with fail
      have t2 := ((((e2.set_ 0 (.bool true)).set_ 1 (.int .i64 v0)).set_ 2 (.int .i64 v1)).set_ 3 (.int .i64 (2000 + v2)))
      have tb := ((((hb.setCell (p := ⟨w.heap.size, 0, none⟩) (by simp) (.bool true)).setCell (p := ⟨w.heap.size, 1, none⟩) (by simp) (.int .i64 v0)).setCell (p := ⟨w.heap.size, 2, none⟩) (by simp) (.int .i64 v1)).setCell (p := ⟨w.heap.size, 3, none⟩) (by simp) (.int .i64 (2000 + v2)))
      refine bodyPost_ret (td_results _ _ w.heap.size _ _ _ _ _ rfl rfl t2) rfl ⟨?_, tb⟩
      rw [HC.out, HE.out]
      rfl
  · replace e2 := (e2.below b1 e2.lt).alloc (.cells #[.int .i64 a, .int .i64 b, .int .i64 c] 94)
    replace hb := hb.trans (b1.mono hb.size)
    have hlw := hb.size
    replace hb := hb.alloc hb.size (.cells #[.int .i64 a, .int .i64 b, .int .i64 c] 94)
    have HC : Hid (takeDC s = .agg #[.bool false, .int .i64 0, .int .i64 0, .int .i64 0]) := hid (by rw [HC0.out, hsx]; rfl)
    have HE : Hid (takeDE s = 3) := hid (by unfold takeDE; rw [HB.out, hsx]; rfl)
    clear hsx
    go_upto_region 5 with (fail)
    generalize w1.alloc (.cells #[.int .i64 a, .int .i64 b, .int .i64 c] 94) = W1 at *
    have c0 : (W1).cell? ⟨w.heap.size, 0, none⟩ = some (.bool false) := e2.cell 0
    have c1 : (W1).cell? ⟨w.heap.size, 1, none⟩ = some (.int .i64 0) := e2.cell 1
    have c2 : (W1).cell? ⟨w.heap.size, 2, none⟩ = some (.int .i64 0) := e2.cell 2
    have c3 : (W1).cell? ⟨w.heap.size, 3, none⟩ = some (.int .i64 0) := e2.cell 3
    have z0 := e2.frozen 0
    have z1 := e2.frozen 1
    have z2 := e2.frozen 2
    have z3 := e2.frozen 3
    go_wp2_with fail
    have t2 := ((((e2.set_ 0 (.bool false)).set_ 1 (.int .i64 0)).set_ 2 (.int .i64 0)).set_ 3 (.int .i64 0))
    have tb := ((((hb.setCell (p := ⟨w.heap.size, 0, none⟩) (by simp) (.bool false)).setCell (p := ⟨w.heap.size, 1, none⟩) (by simp) (.int .i64 0)).setCell (p := ⟨w.heap.size, 2, none⟩) (by simp) (.int .i64 0)).setCell (p := ⟨w.heap.size, 3, none⟩) (by simp) (.int .i64 0))
    refine bodyPost_ret (td_results _ _ w.heap.size _ _ _ _ _ rfl rfl t2) rfl ⟨?_, tb⟩
    rw [HC.out, HE.out]
    rfl
set_option maxRecDepth 20000 in
set_option maxHeartbeats 8000000 in
theorem r_takeDN (s : ByteArray) (w : World) (hs0 : s.size ≤ 100) (hz : s.size ≠ 0) (h6 : s.size ≠ 6) : Calls Try.prog 51 #[.string s] w (TakenD s w) := by
  have hsx : sixB s = false := by unfold sixB; simp [h6]
  have HC : Hid (takeDC s = .agg #[.bool false, .int .i64 0, .int .i64 0, .int .i64 0]) := hid (by unfold takeDC tdB; rw [if_neg (fun h => by rw [hsx] at h; simp [hz] at h)])
  have HE : Hid (takeDE s = 3) := hid (by unfold takeDE tdB; rw [hsx]; simp [hz])
  have he := empty_no s hz
  have d6 : ((s.size : Int) == 6) = false := by simp; omega
  have d6b : ((s.size : Int) != 6) = true := by simp; omega
  have d6c : decide ((s.size : Int) = 6) = false := by simp; omega
  have d6d : (s.size == 6) = false := by simp; omega
  clear hsx hz h6
  have e2 := Blk.new w 60 #[.bool false, .int .i64 0, .int .i64 0, .int .i64 0]
  have hb := (Below.refl w.heap.size w).alloc (Nat.le_refl _) (.cells #[.bool false, .int .i64 0, .int .i64 0, .int .i64 0] 60)
  go_enter Try.func51, Try.ntmps51
  go_upto_region 1 with (fail)
  generalize w.alloc (.cells #[.bool false, .int .i64 0, .int .i64 0, .int .i64 0] 60) = W at *
  have c0 : (W).cell? ⟨w.heap.size, 0, none⟩ = some (.bool false) := e2.cell 0
  have c1 : (W).cell? ⟨w.heap.size, 1, none⟩ = some (.int .i64 0) := e2.cell 1
  have c2 : (W).cell? ⟨w.heap.size, 2, none⟩ = some (.int .i64 0) := e2.cell 2
  have c3 : (W).cell? ⟨w.heap.size, 3, none⟩ = some (.int .i64 0) := e2.cell 3
  have z0 := e2.frozen 0
  have z1 := e2.frozen 1
  have z2 := e2.frozen 2
  have z3 := e2.frozen 3
  go_wp2_with fail
  have t2 := ((((e2.set_ 0 (.bool false)).set_ 1 (.int .i64 0)).set_ 2 (.int .i64 0)).set_ 3 (.int .i64 0))
  have tb := ((((hb.setCell (p := ⟨w.heap.size, 0, none⟩) (by simp) (.bool false)).setCell (p := ⟨w.heap.size, 1, none⟩) (by simp) (.int .i64 0)).setCell (p := ⟨w.heap.size, 2, none⟩) (by simp) (.int .i64 0)).setCell (p := ⟨w.heap.size, 3, none⟩) (by simp) (.int .i64 0))
  refine bodyPost_ret (rtd_results _ _ w.heap.size _ _ _ _ _ rfl rfl t2) rfl ⟨?_, tb⟩
  rw [HC.out, HE.out]
  rfl
set_option maxRecDepth 20000 in
set_option maxHeartbeats 8000000 in
theorem r_takeDD (s : ByteArray) (w : World) (hs0 : s.size ≤ 100) (h6 : s.size = 6) (HD : digsB s = false) : Calls Try.prog 51 #[.string s] w (TakenD s w) := by
  have hz : s.size ≠ 0 := by omega
  have hsx : sixB s = false := by rw [six_is s h6, HD]
  have HC : Hid (takeDC s = .agg #[.bool false, .int .i64 0, .int .i64 0, .int .i64 0]) := hid (by unfold takeDC tdB; rw [if_neg (fun h => by rw [hsx] at h; simp [hz] at h)])
  have HE : Hid (takeDE s = 3) := hid (by unfold takeDE tdB; rw [hsx]; simp [hz])
  have he := empty_no s hz
  have HH := hid fun w => r_digs s w (by omega)
  rw [HD] at HH
  clear hsx HD hz
  have e2 := Blk.new w 60 #[.bool false, .int .i64 0, .int .i64 0, .int .i64 0]
  have hb := (Below.refl w.heap.size w).alloc (Nat.le_refl _) (.cells #[.bool false, .int .i64 0, .int .i64 0, .int .i64 0] 60)
  go_enter Try.func51, Try.ntmps51
  go_wp2_with fail
  generalize w.alloc (.cells #[.bool false, .int .i64 0, .int .i64 0, .int .i64 0] 60) = W at *
  refine (HH.out _).mono ?_
  rintro e w' ⟨rfl, rfl⟩
  have c0 : (W).cell? ⟨w.heap.size, 0, none⟩ = some (.bool false) := e2.cell 0
  have c1 : (W).cell? ⟨w.heap.size, 1, none⟩ = some (.int .i64 0) := e2.cell 1
  have c2 : (W).cell? ⟨w.heap.size, 2, none⟩ = some (.int .i64 0) := e2.cell 2
  have c3 : (W).cell? ⟨w.heap.size, 3, none⟩ = some (.int .i64 0) := e2.cell 3
  have z0 := e2.frozen 0
  have z1 := e2.frozen 1
  have z2 := e2.frozen 2
  have z3 := e2.frozen 3
  go_wp2_with fail
  have t2 := ((((e2.set_ 0 (.bool false)).set_ 1 (.int .i64 0)).set_ 2 (.int .i64 0)).set_ 3 (.int .i64 0))
  have tb := ((((hb.setCell (p := ⟨w.heap.size, 0, none⟩) (by simp) (.bool false)).setCell (p := ⟨w.heap.size, 1, none⟩) (by simp) (.int .i64 0)).setCell (p := ⟨w.heap.size, 2, none⟩) (by simp) (.int .i64 0)).setCell (p := ⟨w.heap.size, 3, none⟩) (by simp) (.int .i64 0))
  refine bodyPost_ret (rtd_results _ _ w.heap.size _ _ _ _ _ rfl rfl t2) rfl ⟨?_, tb⟩
  rw [HC.out, HE.out]
  rfl
set_option maxRecDepth 20000 in
set_option maxHeartbeats 8000000 in
theorem r_takeDG (s : ByteArray) (w : World) (hs0 : s.size ≤ 100) (h6 : s.size = 6) (HD : digsB s = true) : Calls Try.prog 51 #[.string s] w (TakenD s w) := by
  have hz : s.size ≠ 0 := by omega
  have hsx : sixB s = true := by rw [six_is s h6, HD]
  have he := empty_no s hz
  have HC0 : Hid (takeDC s = if sixB s = true ∧ tdM s = true then .agg #[.bool true, .int .i64 (valP (pairsL s) 0), .int .i64 (valP (pairsL s) 1), .int .i64 (2000 + valP (pairsL s) 2)] else .agg #[.bool false, .int .i64 0, .int .i64 0, .int .i64 0]) := hid (by unfold takeDC tdB; simp [hz])
  have HB : Hid (tdB s = sixB s) := hid (by unfold tdB; simp [hz])
  have HM : Hid (tdM s = mayDP true (valP (pairsL s) 0) (valP (pairsL s) 1) (2000 + valP (pairsL s) 2)) := hid (by unfold tdM; simp [hz])
  have vb0 := dig_bd3 s 0
  have vb1 := dig_bd3 s 1
  have vb2 := dig_bd3 s 2
  have q0 : pairV s = valP (pairsL s) 0 := by rw [pairsL_6 s h6]; rfl
  have q1 : pairV (s.extract 2 6) = valP (pairsL s) 1 := by unfold pairV; rw [byteP_ext s 2 6 0 (by omega) (by omega), byteP_ext s 2 6 1 (by omega) (by omega), pairsL_6 s h6]; rfl
  have q2 : pairV (s.extract 4 6) = valP (pairsL s) 2 := by unfold pairV; rw [byteP_ext s 4 6 0 (by omega) (by omega), byteP_ext s 4 6 1 (by omega) (by omega), pairsL_6 s h6]; rfl
  have HP0 := hid fun w => r_pair s w (by omega)
  have HP1 := hid fun w => r_pair (s.extract 2 6) w (by rw [ext_size s 2 6 (by omega)]; omega)
  have HP2 := hid fun w => r_pair (s.extract 4 6) w (by rw [ext_size s 4 6 (by omega)]; omega)
  rw [q0] at HP0
  rw [q1] at HP1
  rw [q2] at HP2
  obtain ⟨v0, hv0⟩ : ∃ v, valP (pairsL s) 0 = v := ⟨_, rfl⟩
  obtain ⟨v1, hv1⟩ : ∃ v, valP (pairsL s) 1 = v := ⟨_, rfl⟩
  obtain ⟨v2, hv2⟩ : ∃ v, valP (pairsL s) 2 = v := ⟨_, rfl⟩
  rw [hv0] at vb0
  rw [hv1] at vb1
  rw [hv2] at vb2
  rw [hv0, hv1, hv2] at HC0 HM
  rw [hv0] at HP0
  rw [hv1] at HP1
  rw [hv2] at HP2
  clear hv0 hv1 hv2 q0 q1 q2 hz
  have HH := hid fun w => r_digs s w (by omega)
  rw [HD] at HH
  clear HD
  have HMY := hid fun w => r_MayDate true v0 v1 (2000 + v2) w (by unfold I64; omega) (by unfold I64; omega)
  obtain ⟨my, hmy⟩ : ∃ v, mayDP true v0 v1 (2000 + v2) = v := ⟨_, rfl⟩
  rw [hmy] at HM HMY
  clear hmy
  have uy : IntKind.i64.wrap (2000 + v2) = 2000 + v2 := IntWalk.i64_in _ (by omega)
  have e2 := Blk.new w 60 #[.bool false, .int .i64 0, .int .i64 0, .int .i64 0]
  have hb := (Below.refl w.heap.size w).alloc (Nat.le_refl _) (.cells #[.bool false, .int .i64 0, .int .i64 0, .int .i64 0] 60)
  go_enter Try.func51, Try.ntmps51
  go_wp2_with fail
  generalize w.alloc (.cells #[.bool false, .int .i64 0, .int .i64 0, .int .i64 0] 60) = W at *
  refine (HH.out _).mono ?_
  rintro e w' ⟨rfl, rfl⟩
  have HSX := hid hsx
  clear hsx
  go_upto_region 5 with (fail)
  go_cut [4] from 17 to 26 (fun v4 wx => ∃ g : Nat, v4 = .pointer (some ⟨g, 0, none⟩) ∧ w.heap.size < g ∧ Blk wx g 60 #[.bool true, .int .i64 v0, .int .i64 v1, .int .i64 (2000 + v2)] ∧ Blk wx w.heap.size 60 #[.bool false, .int .i64 0, .int .i64 0, .int .i64 0] ∧ Below w.heap.size w wx)
  case first =>
    have hlt0 := e2.lt
    refine wp_region_noPanic ?_
    refine wp_region_held_drew (S := (fun w' : World => w'.cell? ⟨w.heap.size, 0, none⟩ = some (.bool false) ∧ w'.cell? ⟨w.heap.size, 1, none⟩ = some (.int .i64 0) ∧ w'.cell? ⟨w.heap.size, 2, none⟩ = some (.int .i64 0) ∧ w'.cell? ⟨w.heap.size, 3, none⟩ = some (.int .i64 0))) (by kernel_rfl) ⟨e2.cell 0, e2.cell 1, e2.cell 2, e2.cell 3⟩ (fun hHeld => ?_)
    refine (show wpAnyH _ _ _ _ _ 12 _ _ _ from ?_)
    try (simp only [Act.put, List.setIfInBounds_toArray, List.set_cons_zero, List.set_cons_succ])
    replace e2 := e2.drew
    replace hb := hb.drew
    generalize W.drew = W1 at *
    refine tk 0 hHeld ?_
    refine tk 2 hHeld ?_
    refine tk 3 hHeld ?_
    refine tk 5 hHeld ?_
    refine tk 6 hHeld ?_
    refine rd2 1 10 (fun K hK => ?hc2q1) (fun K hK => ?hc2q10)
    case hc2q1 =>
      go_simp
      refine (HP0.out _).mono ?_
      rintro e v3 ⟨rfl, bb⟩
      go_wp2_with fail
      replace e2 := e2.below bb e2.lt
      replace hb := below24 hb bb
      clear bb
      refine hK.out _ _ ⟨e2.cell 0, e2.cell 1, e2.cell 2, e2.cell 3⟩ (fun hHeld => ?_)
      clear hK K
      try (simp only [Act.put, List.setIfInBounds_toArray, List.set_cons_zero, List.set_cons_succ])
      refine rd2 4 10 (fun K hK => ?hc4q4) (fun K hK => ?hc4q10)
      case hc4q4 =>
        go_simp
        refine (HP1.out _).mono ?_
        rintro e v5 ⟨rfl, bb⟩
        go_wp2_with fail
        replace e2 := e2.below bb e2.lt
        replace hb := below24 hb bb
        clear bb
        refine hK.out _ _ ⟨e2.cell 0, e2.cell 1, e2.cell 2, e2.cell 3⟩ (fun hHeld => ?_)
        clear hK K
        try (simp only [Act.put, List.setIfInBounds_toArray, List.set_cons_zero, List.set_cons_succ])
        refine rd2 7 10 (fun K hK => ?hc6q7) (fun K hK => ?hc6q10)
        case hc6q7 =>
          go_simp
          refine (HP2.out _).mono ?_
          rintro e v7 ⟨rfl, bb⟩
          go_wp2_with fail
          replace e2 := e2.below bb e2.lt
          replace hb := below24 hb bb
          clear bb
          refine hK.out _ _ ⟨e2.cell 0, e2.cell 1, e2.cell 2, e2.cell 3⟩ (fun hHeld => ?_)
          clear hK K
          try (simp only [Act.put, List.setIfInBounds_toArray, List.set_cons_zero, List.set_cons_succ])
          refine tk 8 hHeld ?_
          refine tk 9 hHeld ?_
          refine rd1 10 (fun K hK => ?_)
          go_simp
          try go_wp2_with fail
          have lb9 := hb.size
          have l9e2 := e2.lt
          replace e2 := e2.alloc (.cells #[.bool false, .int .i64 0, .int .i64 0, .int .i64 0] 60)
          have n9 := Blk.new v7 60 #[.bool false, .int .i64 0, .int .i64 0, .int .i64 0]
          replace hb := hb.alloc hb.size (.cells #[.bool false, .int .i64 0, .int .i64 0, .int .i64 0] 60)
          generalize v7.alloc (.cells #[.bool false, .int .i64 0, .int .i64 0, .int .i64 0] 60) = v9 at *
          have le2 := e2.lt
          generalize v7.heap.size = g9 at *
          refine hK.out _ _ ⟨e2.cell 0, e2.cell 1, e2.cell 2, e2.cell 3⟩ (fun hHeld => ?_)
          clear hK K
          try (simp only [Act.put, List.setIfInBounds_toArray, List.set_cons_zero, List.set_cons_succ])
          refine rd1 11 (fun K hK => ?_)
          have c0 : v9.cell? ⟨g9, 0, none⟩ = some (.bool false) := n9.cell 0
          have z0 := n9.frozen 0
          have c1 : v9.cell? ⟨g9, 1, none⟩ = some (.int .i64 0) := n9.cell 1
          have z1 := n9.frozen 1
          have c2 : v9.cell? ⟨g9, 2, none⟩ = some (.int .i64 0) := n9.cell 2
          have z2 := n9.frozen 2
          have c3 : v9.cell? ⟨g9, 3, none⟩ = some (.int .i64 0) := n9.cell 3
          have z3 := n9.frozen 3
          go_simp
          try go_wp2_with fail
          replace e2 := ((((e2.far (p := ⟨g9, 0, none⟩) (by dsimp only; omega) (.bool true)).far (p := ⟨g9, 1, none⟩) (by dsimp only; omega) (.int .i64 v0)).far (p := ⟨g9, 2, none⟩) (by dsimp only; omega) (.int .i64 v1)).far (p := ⟨g9, 3, none⟩) (by dsimp only; omega) (.int .i64 (2000 + v2)))
          replace n9 := ((((n9.set_ 0 (.bool true)).set_ 1 (.int .i64 v0)).set_ 2 (.int .i64 v1)).set_ 3 (.int .i64 (2000 + v2)))
          replace hb := ((((hb.setCell (p := ⟨g9, 0, none⟩) (by dsimp only; omega) (.bool true)).setCell (p := ⟨g9, 1, none⟩) (by dsimp only; omega) (.int .i64 v0)).setCell (p := ⟨g9, 2, none⟩) (by dsimp only; omega) (.int .i64 v1)).setCell (p := ⟨g9, 3, none⟩) (by dsimp only; omega) (.int .i64 (2000 + v2)))
          clear c0 z0 c1 z1 c2 z2 c3 z3
          generalize ((((v9.setCell ⟨g9, 0, none⟩ (.bool true)).setCell ⟨g9, 1, none⟩ (.int .i64 v0)).setCell ⟨g9, 2, none⟩ (.int .i64 v1)).setCell ⟨g9, 3, none⟩ (.int .i64 (2000 + v2))) = v11 at *
          refine hK.out _ _ ⟨e2.cell 0, e2.cell 1, e2.cell 2, e2.cell 3⟩ (fun hHeld => ?_)
          clear hK K
          try (simp only [Act.put, List.setIfInBounds_toArray, List.set_cons_zero, List.set_cons_succ])
          refine wpAnyH_done ?hru12 ?hqu12 _
          case hru12 => kernel_rfl
          refine NoPanic.normal ?_
          try go_wp2_with fail
          go_meet
          exact ⟨g9, rfl, by omega, n9, e2, hb⟩
        case hc6q10 =>
          go_simp
          try go_wp2_with fail
          have lb13 := hb.size
          have l13e2 := e2.lt
          replace e2 := e2.alloc (.cells #[.bool false, .int .i64 0, .int .i64 0, .int .i64 0] 60)
          have n13 := Blk.new v5 60 #[.bool false, .int .i64 0, .int .i64 0, .int .i64 0]
          replace hb := hb.alloc hb.size (.cells #[.bool false, .int .i64 0, .int .i64 0, .int .i64 0] 60)
          generalize v5.alloc (.cells #[.bool false, .int .i64 0, .int .i64 0, .int .i64 0] 60) = v13 at *
          have le2 := e2.lt
          generalize v5.heap.size = g13 at *
          refine hK.out _ _ ⟨e2.cell 0, e2.cell 1, e2.cell 2, e2.cell 3⟩ (fun hHeld => ?_)
          clear hK K
          try (simp only [Act.put, List.setIfInBounds_toArray, List.set_cons_zero, List.set_cons_succ])
          refine rd1 7 (fun K hK => ?_)
          go_simp
          refine (HP2.out _).mono ?_
          rintro e v15 ⟨rfl, bb⟩
          go_wp2_with fail
          replace e2 := e2.below bb e2.lt
          replace n13 := n13.below bb n13.lt
          replace hb := below24 hb bb
          clear bb
          refine hK.out _ _ ⟨e2.cell 0, e2.cell 1, e2.cell 2, e2.cell 3⟩ (fun hHeld => ?_)
          clear hK K
          try (simp only [Act.put, List.setIfInBounds_toArray, List.set_cons_zero, List.set_cons_succ])
          refine tk 8 hHeld ?_
          refine tk 9 hHeld ?_
          refine rd1 11 (fun K hK => ?_)
          have c0 : v15.cell? ⟨g13, 0, none⟩ = some (.bool false) := n13.cell 0
          have z0 := n13.frozen 0
          have c1 : v15.cell? ⟨g13, 1, none⟩ = some (.int .i64 0) := n13.cell 1
          have z1 := n13.frozen 1
          have c2 : v15.cell? ⟨g13, 2, none⟩ = some (.int .i64 0) := n13.cell 2
          have z2 := n13.frozen 2
          have c3 : v15.cell? ⟨g13, 3, none⟩ = some (.int .i64 0) := n13.cell 3
          have z3 := n13.frozen 3
          go_simp
          try go_wp2_with fail
          replace e2 := ((((e2.far (p := ⟨g13, 0, none⟩) (by dsimp only; omega) (.bool true)).far (p := ⟨g13, 1, none⟩) (by dsimp only; omega) (.int .i64 v0)).far (p := ⟨g13, 2, none⟩) (by dsimp only; omega) (.int .i64 v1)).far (p := ⟨g13, 3, none⟩) (by dsimp only; omega) (.int .i64 (2000 + v2)))
          replace n13 := ((((n13.set_ 0 (.bool true)).set_ 1 (.int .i64 v0)).set_ 2 (.int .i64 v1)).set_ 3 (.int .i64 (2000 + v2)))
          replace hb := ((((hb.setCell (p := ⟨g13, 0, none⟩) (by dsimp only; omega) (.bool true)).setCell (p := ⟨g13, 1, none⟩) (by dsimp only; omega) (.int .i64 v0)).setCell (p := ⟨g13, 2, none⟩) (by dsimp only; omega) (.int .i64 v1)).setCell (p := ⟨g13, 3, none⟩) (by dsimp only; omega) (.int .i64 (2000 + v2)))
          clear c0 z0 c1 z1 c2 z2 c3 z3
          generalize ((((v15.setCell ⟨g13, 0, none⟩ (.bool true)).setCell ⟨g13, 1, none⟩ (.int .i64 v0)).setCell ⟨g13, 2, none⟩ (.int .i64 v1)).setCell ⟨g13, 3, none⟩ (.int .i64 (2000 + v2))) = v17 at *
          refine hK.out _ _ ⟨e2.cell 0, e2.cell 1, e2.cell 2, e2.cell 3⟩ (fun hHeld => ?_)
          clear hK K
          try (simp only [Act.put, List.setIfInBounds_toArray, List.set_cons_zero, List.set_cons_succ])
          refine wpAnyH_done ?hru18 ?hqu18 _
          case hru18 => kernel_rfl
          refine NoPanic.normal ?_
          try go_wp2_with fail
          go_meet
          exact ⟨g13, rfl, by omega, n13, e2, hb⟩
      case hc4q10 =>
        go_simp
        try go_wp2_with fail
        have lb19 := hb.size
        have l19e2 := e2.lt
        replace e2 := e2.alloc (.cells #[.bool false, .int .i64 0, .int .i64 0, .int .i64 0] 60)
        have n19 := Blk.new v3 60 #[.bool false, .int .i64 0, .int .i64 0, .int .i64 0]
        replace hb := hb.alloc hb.size (.cells #[.bool false, .int .i64 0, .int .i64 0, .int .i64 0] 60)
        generalize v3.alloc (.cells #[.bool false, .int .i64 0, .int .i64 0, .int .i64 0] 60) = v19 at *
        have le2 := e2.lt
        generalize v3.heap.size = g19 at *
        refine hK.out _ _ ⟨e2.cell 0, e2.cell 1, e2.cell 2, e2.cell 3⟩ (fun hHeld => ?_)
        clear hK K
        try (simp only [Act.put, List.setIfInBounds_toArray, List.set_cons_zero, List.set_cons_succ])
        refine rd1 4 (fun K hK => ?_)
        go_simp
        refine (HP1.out _).mono ?_
        rintro e v21 ⟨rfl, bb⟩
        go_wp2_with fail
        replace e2 := e2.below bb e2.lt
        replace n19 := n19.below bb n19.lt
        replace hb := below24 hb bb
        clear bb
        refine hK.out _ _ ⟨e2.cell 0, e2.cell 1, e2.cell 2, e2.cell 3⟩ (fun hHeld => ?_)
        clear hK K
        try (simp only [Act.put, List.setIfInBounds_toArray, List.set_cons_zero, List.set_cons_succ])
        refine rd1 7 (fun K hK => ?_)
        go_simp
        refine (HP2.out _).mono ?_
        rintro e v23 ⟨rfl, bb⟩
        go_wp2_with fail
        replace e2 := e2.below bb e2.lt
        replace n19 := n19.below bb n19.lt
        replace hb := below24 hb bb
        clear bb
        refine hK.out _ _ ⟨e2.cell 0, e2.cell 1, e2.cell 2, e2.cell 3⟩ (fun hHeld => ?_)
        clear hK K
        try (simp only [Act.put, List.setIfInBounds_toArray, List.set_cons_zero, List.set_cons_succ])
        refine tk 8 hHeld ?_
        refine tk 9 hHeld ?_
        refine rd1 11 (fun K hK => ?_)
        have c0 : v23.cell? ⟨g19, 0, none⟩ = some (.bool false) := n19.cell 0
        have z0 := n19.frozen 0
        have c1 : v23.cell? ⟨g19, 1, none⟩ = some (.int .i64 0) := n19.cell 1
        have z1 := n19.frozen 1
        have c2 : v23.cell? ⟨g19, 2, none⟩ = some (.int .i64 0) := n19.cell 2
        have z2 := n19.frozen 2
        have c3 : v23.cell? ⟨g19, 3, none⟩ = some (.int .i64 0) := n19.cell 3
        have z3 := n19.frozen 3
        go_simp
        try go_wp2_with fail
        replace e2 := ((((e2.far (p := ⟨g19, 0, none⟩) (by dsimp only; omega) (.bool true)).far (p := ⟨g19, 1, none⟩) (by dsimp only; omega) (.int .i64 v0)).far (p := ⟨g19, 2, none⟩) (by dsimp only; omega) (.int .i64 v1)).far (p := ⟨g19, 3, none⟩) (by dsimp only; omega) (.int .i64 (2000 + v2)))
        replace n19 := ((((n19.set_ 0 (.bool true)).set_ 1 (.int .i64 v0)).set_ 2 (.int .i64 v1)).set_ 3 (.int .i64 (2000 + v2)))
        replace hb := ((((hb.setCell (p := ⟨g19, 0, none⟩) (by dsimp only; omega) (.bool true)).setCell (p := ⟨g19, 1, none⟩) (by dsimp only; omega) (.int .i64 v0)).setCell (p := ⟨g19, 2, none⟩) (by dsimp only; omega) (.int .i64 v1)).setCell (p := ⟨g19, 3, none⟩) (by dsimp only; omega) (.int .i64 (2000 + v2)))
        clear c0 z0 c1 z1 c2 z2 c3 z3
        generalize ((((v23.setCell ⟨g19, 0, none⟩ (.bool true)).setCell ⟨g19, 1, none⟩ (.int .i64 v0)).setCell ⟨g19, 2, none⟩ (.int .i64 v1)).setCell ⟨g19, 3, none⟩ (.int .i64 (2000 + v2))) = v25 at *
        refine hK.out _ _ ⟨e2.cell 0, e2.cell 1, e2.cell 2, e2.cell 3⟩ (fun hHeld => ?_)
        clear hK K
        try (simp only [Act.put, List.setIfInBounds_toArray, List.set_cons_zero, List.set_cons_succ])
        refine wpAnyH_done ?hru26 ?hqu26 _
        case hru26 => kernel_rfl
        refine NoPanic.normal ?_
        try go_wp2_with fail
        go_meet
        exact ⟨g19, rfl, by omega, n19, e2, hb⟩
    case hc2q10 =>
      go_simp
      try go_wp2_with fail
      have lb27 := hb.size
      have l27e2 := e2.lt
      replace e2 := e2.alloc (.cells #[.bool false, .int .i64 0, .int .i64 0, .int .i64 0] 60)
      have n27 := Blk.new W1 60 #[.bool false, .int .i64 0, .int .i64 0, .int .i64 0]
      replace hb := hb.alloc hb.size (.cells #[.bool false, .int .i64 0, .int .i64 0, .int .i64 0] 60)
      generalize W1.alloc (.cells #[.bool false, .int .i64 0, .int .i64 0, .int .i64 0] 60) = v27 at *
      have le2 := e2.lt
      generalize W1.heap.size = g27 at *
      refine hK.out _ _ ⟨e2.cell 0, e2.cell 1, e2.cell 2, e2.cell 3⟩ (fun hHeld => ?_)
      clear hK K
      try (simp only [Act.put, List.setIfInBounds_toArray, List.set_cons_zero, List.set_cons_succ])
      refine rd1 1 (fun K hK => ?_)
      go_simp
      refine (HP0.out _).mono ?_
      rintro e v29 ⟨rfl, bb⟩
      go_wp2_with fail
      replace e2 := e2.below bb e2.lt
      replace n27 := n27.below bb n27.lt
      replace hb := below24 hb bb
      clear bb
      refine hK.out _ _ ⟨e2.cell 0, e2.cell 1, e2.cell 2, e2.cell 3⟩ (fun hHeld => ?_)
      clear hK K
      try (simp only [Act.put, List.setIfInBounds_toArray, List.set_cons_zero, List.set_cons_succ])
      refine rd1 4 (fun K hK => ?_)
      go_simp
      refine (HP1.out _).mono ?_
      rintro e v31 ⟨rfl, bb⟩
      go_wp2_with fail
      replace e2 := e2.below bb e2.lt
      replace n27 := n27.below bb n27.lt
      replace hb := below24 hb bb
      clear bb
      refine hK.out _ _ ⟨e2.cell 0, e2.cell 1, e2.cell 2, e2.cell 3⟩ (fun hHeld => ?_)
      clear hK K
      try (simp only [Act.put, List.setIfInBounds_toArray, List.set_cons_zero, List.set_cons_succ])
      refine rd1 7 (fun K hK => ?_)
      go_simp
      refine (HP2.out _).mono ?_
      rintro e v33 ⟨rfl, bb⟩
      go_wp2_with fail
      replace e2 := e2.below bb e2.lt
      replace n27 := n27.below bb n27.lt
      replace hb := below24 hb bb
      clear bb
      refine hK.out _ _ ⟨e2.cell 0, e2.cell 1, e2.cell 2, e2.cell 3⟩ (fun hHeld => ?_)
      clear hK K
      try (simp only [Act.put, List.setIfInBounds_toArray, List.set_cons_zero, List.set_cons_succ])
      refine tk 8 hHeld ?_
      refine tk 9 hHeld ?_
      refine rd1 11 (fun K hK => ?_)
      have c0 : v33.cell? ⟨g27, 0, none⟩ = some (.bool false) := n27.cell 0
      have z0 := n27.frozen 0
      have c1 : v33.cell? ⟨g27, 1, none⟩ = some (.int .i64 0) := n27.cell 1
      have z1 := n27.frozen 1
      have c2 : v33.cell? ⟨g27, 2, none⟩ = some (.int .i64 0) := n27.cell 2
      have z2 := n27.frozen 2
      have c3 : v33.cell? ⟨g27, 3, none⟩ = some (.int .i64 0) := n27.cell 3
      have z3 := n27.frozen 3
      go_simp
      try go_wp2_with fail
      replace e2 := ((((e2.far (p := ⟨g27, 0, none⟩) (by dsimp only; omega) (.bool true)).far (p := ⟨g27, 1, none⟩) (by dsimp only; omega) (.int .i64 v0)).far (p := ⟨g27, 2, none⟩) (by dsimp only; omega) (.int .i64 v1)).far (p := ⟨g27, 3, none⟩) (by dsimp only; omega) (.int .i64 (2000 + v2)))
      replace n27 := ((((n27.set_ 0 (.bool true)).set_ 1 (.int .i64 v0)).set_ 2 (.int .i64 v1)).set_ 3 (.int .i64 (2000 + v2)))
      replace hb := ((((hb.setCell (p := ⟨g27, 0, none⟩) (by dsimp only; omega) (.bool true)).setCell (p := ⟨g27, 1, none⟩) (by dsimp only; omega) (.int .i64 v0)).setCell (p := ⟨g27, 2, none⟩) (by dsimp only; omega) (.int .i64 v1)).setCell (p := ⟨g27, 3, none⟩) (by dsimp only; omega) (.int .i64 (2000 + v2)))
      clear c0 z0 c1 z1 c2 z2 c3 z3
      generalize ((((v33.setCell ⟨g27, 0, none⟩ (.bool true)).setCell ⟨g27, 1, none⟩ (.int .i64 v0)).setCell ⟨g27, 2, none⟩ (.int .i64 v1)).setCell ⟨g27, 3, none⟩ (.int .i64 (2000 + v2))) = v35 at *
      refine hK.out _ _ ⟨e2.cell 0, e2.cell 1, e2.cell 2, e2.cell 3⟩ (fun hHeld => ?_)
      clear hK K
      try (simp only [Act.put, List.setIfInBounds_toArray, List.set_cons_zero, List.set_cons_succ])
      refine wpAnyH_done ?hru36 ?hqu36 _
      case hru36 => kernel_rfl
      refine NoPanic.normal ?_
      try go_wp2_with fail
      go_meet
      exact ⟨g27, rfl, by omega, n27, e2, hb⟩
  case rest =>
    clear e2 hb
    obtain ⟨g9, rfl, hlg, e9, e2, hb⟩ := hcut
    have k0 : (wc).cell? ⟨g9, 0, none⟩ = some (.bool true) := e9.cell 0
    have k1 : (wc).cell? ⟨g9, 1, none⟩ = some (.int .i64 v0) := e9.cell 1
    have k2 : (wc).cell? ⟨g9, 2, none⟩ = some (.int .i64 v1) := e9.cell 2
    have k3 : (wc).cell? ⟨g9, 3, none⟩ = some (.int .i64 (2000 + v2)) := e9.cell 3
    go_wp2_with fail
    clear k0 k1 k2 k3
    refine (HMY.out _).mono ?_
    rintro e w6 ⟨rfl, b6⟩
    replace e9 := e9.below b6 e9.lt
    replace e2 := e2.below b6 e2.lt
    replace hb := below24 hb b6
    have hsx := HSX.out
    cases my
    · have HC : Hid (takeDC s = .agg #[.bool false, .int .i64 0, .int .i64 0, .int .i64 0]) := hid (by rw [HC0.out, HM.out, if_neg (by simp)])
      have HE : Hid (takeDE s = 5) := hid (by unfold takeDE; rw [HB.out, hsx, HM.out]; rfl)
      clear hsx
      go_upto_region 7 with (fail)
      have c0 : (w6).cell? ⟨w.heap.size, 0, none⟩ = some (.bool false) := e2.cell 0
      have c1 : (w6).cell? ⟨w.heap.size, 1, none⟩ = some (.int .i64 0) := e2.cell 1
      have c2 : (w6).cell? ⟨w.heap.size, 2, none⟩ = some (.int .i64 0) := e2.cell 2
      have c3 : (w6).cell? ⟨w.heap.size, 3, none⟩ = some (.int .i64 0) := e2.cell 3
      have z0 := e2.frozen 0
      have z1 := e2.frozen 1
      have z2 := e2.frozen 2
      have z3 := e2.frozen 3
      go_wp2_with fail
      have t2 := ((((e2.set_ 0 (.bool false)).set_ 1 (.int .i64 0)).set_ 2 (.int .i64 0)).set_ 3 (.int .i64 0))
      have tb := ((((hb.setCell (p := ⟨w.heap.size, 0, none⟩) (by simp) (.bool false)).setCell (p := ⟨w.heap.size, 1, none⟩) (by simp) (.int .i64 0)).setCell (p := ⟨w.heap.size, 2, none⟩) (by simp) (.int .i64 0)).setCell (p := ⟨w.heap.size, 3, none⟩) (by simp) (.int .i64 0))
      refine bodyPost_ret (rtd_results _ _ w.heap.size _ _ _ _ _ rfl rfl t2) rfl ⟨?_, tb⟩
      rw [HC.out, HE.out]
      rfl
    · have HC : Hid (takeDC s = .agg #[.bool true, .int .i64 v0, .int .i64 v1, .int .i64 (2000 + v2)]) := hid (by rw [HC0.out, HM.out, if_pos ⟨hsx, rfl⟩])
      have HE : Hid (takeDE s = 0) := hid (by unfold takeDE; rw [HB.out, hsx, HM.out]; rfl)
      clear hsx
      go_upto_region 8 with (fail)
      have k0 : (w6).cell? ⟨g9, 0, none⟩ = some (.bool true) := e9.cell 0
      have k1 : (w6).cell? ⟨g9, 1, none⟩ = some (.int .i64 v0) := e9.cell 1
      have k2 : (w6).cell? ⟨g9, 2, none⟩ = some (.int .i64 v1) := e9.cell 2
      have k3 : (w6).cell? ⟨g9, 3, none⟩ = some (.int .i64 (2000 + v2)) := e9.cell 3
      have c0 : (w6).cell? ⟨w.heap.size, 0, none⟩ = some (.bool false) := e2.cell 0
      have c1 : (w6).cell? ⟨w.heap.size, 1, none⟩ = some (.int .i64 0) := e2.cell 1
      have c2 : (w6).cell? ⟨w.heap.size, 2, none⟩ = some (.int .i64 0) := e2.cell 2
      have c3 : (w6).cell? ⟨w.heap.size, 3, none⟩ = some (.int .i64 0) := e2.cell 3
      have z0 := e2.frozen 0
      have z1 := e2.frozen 1
      have z2 := e2.frozen 2
      have z3 := e2.frozen 3
      go_wp2_with fail
      have t2 := ((((e2.set_ 0 (.bool true)).set_ 1 (.int .i64 v0)).set_ 2 (.int .i64 v1)).set_ 3 (.int .i64 (2000 + v2)))
      have tb := ((((hb.setCell (p := ⟨w.heap.size, 0, none⟩) (by simp) (.bool true)).setCell (p := ⟨w.heap.size, 1, none⟩) (by simp) (.int .i64 v0)).setCell (p := ⟨w.heap.size, 2, none⟩) (by simp) (.int .i64 v1)).setCell (p := ⟨w.heap.size, 3, none⟩) (by simp) (.int .i64 (2000 + v2)))
      refine bodyPost_ret (rtd_results _ _ w.heap.size _ _ _ _ _ rfl rfl t2) rfl ⟨?_, tb⟩
      rw [HC.out, HE.out]
      rfl
theorem c_TakeDate (s : ByteArray) (w : World) (hs : s.size ≤ 100) : Calls Try.prog 50 #[.string s] w (TakenD s w) := by
  by_cases h : s.size = 0
  · exact c_takeD0 s w hs h
  · exact c_takeD1 s w hs h
theorem r_TakeDate (s : ByteArray) (w : World) (hs : s.size ≤ 100) : Calls Try.prog 51 #[.string s] w (TakenD s w) := by
  by_cases h : s.size = 0
  · exact r_takeD0 s w hs h
  · by_cases h6 : s.size = 6
    · cases HD : digsB s
      · exact r_takeDD s w hs h6 HD
      · exact r_takeDG s w hs h6 HD
    · exact r_takeDN s w hs h h6
end Go.Proofs.Ytbhfidneijogfaa
