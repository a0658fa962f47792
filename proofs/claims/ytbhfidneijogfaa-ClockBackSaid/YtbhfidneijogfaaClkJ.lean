/- Chapter 24: Take. -/
import Derived.Test.YtbhfidneijogfaaClkI
namespace Go.Proofs.Ytbhfidneijogfaa
open Go.RowKit
set_option linter.unusedVariables false
set_option linter.unusedSimpArgs false
attribute [local go_sem] Oper.semAt_some
def headS (s : ByteArray) : ByteArray := s.extract 0 (min s.size 6)
def tailS (s : ByteArray) : ByteArray := s.extract (min s.size 6) s.size
def tkH (s : ByteArray) (k : Nat) : Int := valP (pairsL (headS s)) k
def tkB (s : ByteArray) : Bool := decide (s.size = 0) || (sixB (headS s) && (behP (tailS s)).2)
def tkM (s : ByteArray) : Bool := decide (s.size = 0) || mayP true (tkH s 0) (tkH s 1) (tkH s 2) (behP (tailS s)).1
def takeC (s : ByteArray) : Value := if s.size ≠ 0 ∧ tkB s = true ∧ tkM s = true then .agg #[.bool true, .int .i64 (tkH s 0), .int .i64 (tkH s 1), .int .i64 (tkH s 2), .int .i64 (behP (tailS s)).1] else .agg #[.bool false, .int .i64 0, .int .i64 0, .int .i64 0, .int .i64 0]
def takeE (s : ByteArray) : Int := if tkB s = false then 3 else if tkM s = false then 5 else 0
def Taken (s : ByteArray) (w : World) (e : Ending) (w' : World) : Prop := e = .returned (.tuple #[takeC s, .int .i64 (takeE s)]) ∧ Below w.heap.size w w'
theorem dig_bd3 (s : ByteArray) (k : Nat) : 0 ≤ valP (pairsL s) k ∧ valP (pairsL s) k ≤ 2805 := by
  unfold valP
  cases h : (pairsL s)[k]? with
  | none => simp
  | some x =>
    have : x ∈ pairsL s := List.mem_of_getElem? h
    unfold pairsL at this
    obtain ⟨j, _, rfl⟩ := List.mem_map.1 this
    simp only [Option.getD_some, pairAt]
    have h1 := digP_bd (byteP s (2 * j))
    have h2 := digP_bd (byteP s (2 * j + 1))
    omega
theorem beh_bd (s : ByteArray) : 0 ≤ (behP s).1 ∧ (behP s).1 ≤ 2805 := by
  have h1 := digP_bd (byteP s 1)
  have h2 := digP_bd (byteP s 2)
  unfold behP
  split
  · simp
  · split
    · simp only
      split <;> omega
    · simp
theorem tk_results (w : World) (tmps : Array Value) (g : Nat) (a0 a1 a2 a3 a4 v : Value) (h2 : tmps.getD 2 undef = .pointer (some ⟨g, 0, none⟩)) (h3 : tmps.getD 3 undef = v)
    (hg : Blk w g 62 #[a0, a1, a2, a3, a4]) : (results Try.f45 tmps).run Try.prog w = .ok (.tuple #[.agg #[a0, a1, a2, a3, a4], v]) w := by
  have f0 := hg.cell 0
  have f1 := hg.cell 1
  have f2 := hg.cell 2
  have f3 := hg.cell 3
  have f4 := hg.cell 4
  simp at f0 f1 f2 f3 f4
  simp at h2 h3
  simp only [results, Try.f45]
  simp [h2, h3]
  go_simp
set_option maxRecDepth 20000 in
set_option maxHeartbeats 8000000 in
theorem c_Take (s : ByteArray) (w : World) (hs : s.size ≤ 100) : Calls Try.prog 45 #[.string s] w (Taken s w) := by
  by_cases hz : s.size = 0
  · have HC : Hid (takeC s = .agg #[.bool false, .int .i64 0, .int .i64 0, .int .i64 0, .int .i64 0]) := hid (by unfold takeC; rw [if_neg (by omega)])
    have HE : Hid (takeE s = 0) := hid (by unfold takeE tkB tkM; simp [hz])
    have he := empty_is s hz
    have he2 : s.toList.isEmpty = true := by rw [he]; rfl
    clear hz
    have e2 := Blk.new w 62 #[.bool false, .int .i64 0, .int .i64 0, .int .i64 0, .int .i64 0]
    have hb := (Below.refl w.heap.size w).alloc (Nat.le_refl _) (.cells #[.bool false, .int .i64 0, .int .i64 0, .int .i64 0, .int .i64 0] 62)
    go_enter Try.func45, Try.ntmps45
    go_upto_region 1 with (fail)
    generalize w.alloc (.cells #[.bool false, .int .i64 0, .int .i64 0, .int .i64 0, .int .i64 0] 62) = W at *
    have c0 : (W).cell? ⟨w.heap.size, 0, none⟩ = some (.bool false) := e2.cell 0
    have c1 : (W).cell? ⟨w.heap.size, 1, none⟩ = some (.int .i64 0) := e2.cell 1
    have c2 : (W).cell? ⟨w.heap.size, 2, none⟩ = some (.int .i64 0) := e2.cell 2
    have c3 : (W).cell? ⟨w.heap.size, 3, none⟩ = some (.int .i64 0) := e2.cell 3
    have c4 : (W).cell? ⟨w.heap.size, 4, none⟩ = some (.int .i64 0) := e2.cell 4
    have z0 := e2.frozen 0
    have z1 := e2.frozen 1
    have z2 := e2.frozen 2
    have z3 := e2.frozen 3
    have z4 := e2.frozen 4
    go_wp2_with fail
    have t2 := (((((e2.set_ 0 (.bool false)).set_ 1 (.int .i64 0)).set_ 2 (.int .i64 0)).set_ 3 (.int .i64 0)).set_ 4 (.int .i64 0))
    have tb := (((((hb.setCell (p := ⟨w.heap.size, 0, none⟩) (by simp) (.bool false)).setCell (p := ⟨w.heap.size, 1, none⟩) (by simp) (.int .i64 0)).setCell (p := ⟨w.heap.size, 2, none⟩) (by simp) (.int .i64 0)).setCell (p := ⟨w.heap.size, 3, none⟩) (by simp) (.int .i64 0)).setCell (p := ⟨w.heap.size, 4, none⟩) (by simp) (.int .i64 0))
    refine bodyPost_ret (tk_results _ _ w.heap.size _ _ _ _ _ _ rfl rfl t2) rfl ⟨?_, tb⟩
    rw [HC.out, HE.out]
    rfl
  · have he := empty_no s hz
    have hH := hid (fun w => c_three (headS s) w)
    have hT := hid (fun w => c_behind (tailS s) w)
    have HC : Hid (takeC s = if tkB s = true ∧ tkM s = true then .agg #[.bool true, .int .i64 (tkH s 0), .int .i64 (tkH s 1), .int .i64 (tkH s 2), .int .i64 (behP (tailS s)).1] else .agg #[.bool false, .int .i64 0, .int .i64 0, .int .i64 0, .int .i64 0]) := hid (by unfold takeC; simp [hz])
    have HB : Hid (tkB s = (sixB (headS s) && (behP (tailS s)).2)) := hid (by unfold tkB; simp [hz])
    have HM : Hid (tkM s = mayP true (tkH s 0) (tkH s 1) (tkH s 2) (behP (tailS s)).1) := hid (by unfold tkM; simp [hz])
    have HMY := hid (fun w => c_may true (tkH s 0) (tkH s 1) (tkH s 2) (behP (tailS s)).1 w)
    have HTK : Hid (∀ k, valP (pairsL (headS s)) k = tkH s k) := hid fun k => rfl
    generalize hbe : behP (tailS s) = bp at *
    obtain ⟨bc, bo⟩ := bp
    unfold Beh at hT
    unfold Three at hH
    rw [hbe] at hT
    simp only [HTK.out] at hH
    dsimp only at hT HC HB HM HMY
    obtain ⟨v0, hv0⟩ : ∃ v, tkH s 0 = v := ⟨_, rfl⟩
    obtain ⟨v1, hv1⟩ : ∃ v, tkH s 1 = v := ⟨_, rfl⟩
    obtain ⟨v2, hv2⟩ : ∃ v, tkH s 2 = v := ⟨_, rfl⟩
    rw [hv0, hv1, hv2] at HC HM HMY
    simp only [hv0, hv1, hv2] at hH
    obtain ⟨my, hmy⟩ : ∃ v, mayP true v0 v1 v2 bc = v := ⟨_, rfl⟩
    rw [hmy] at HM HMY
    clear hmy hv0 hv1 hv2 hbe HTK
    obtain ⟨n, hn⟩ : ∃ n : Nat, min s.size 6 = n := ⟨_, rfl⟩
    have hn1 : n ≤ s.size ∧ n ≤ 6 := by omega
    have hmin : min (s.size : Int) 6 = (n : Int) := by omega
    have hmin2 : (if (6 : Int) < (s.size : Int) then 6 else (s.size : Int)) = (n : Int) := by split <;> omega
    have hHe : s.extract 0 n = headS s := by rw [← hn]; rfl
    have hTe : s.extract n s.size = tailS s := by rw [← hn]; rfl
    have n1 : n ≤ s.size := hn1.1
    clear hn hn1 hz
    have e2 := Blk.new w 62 #[.bool false, .int .i64 0, .int .i64 0, .int .i64 0, .int .i64 0]
    have hb := (Below.refl w.heap.size w).alloc (Nat.le_refl _) (.cells #[.bool false, .int .i64 0, .int .i64 0, .int .i64 0, .int .i64 0] 62)
    go_enter Try.func45, Try.ntmps45
    go_wp2_with fail
    generalize w.alloc (.cells #[.bool false, .int .i64 0, .int .i64 0, .int .i64 0, .int .i64 0] 62) = W0 at *
    refine (hH.out _).mono ?_
    rintro e w1 (⟨hsx, rfl, b1⟩ | ⟨hsx, ⟨a, b, c, rfl⟩, b1⟩)
    · replace e2 := (e2.below b1 e2.lt).alloc (.cells #[.int .i64 v0, .int .i64 v1, .int .i64 v2] 94)
      replace hb := hb.trans (b1.mono hb.size)
      have hlw := hb.size
      have e5 := Blk.new w1 94 #[.int .i64 v0, .int .i64 v1, .int .i64 v2]
      replace hb := hb.alloc hb.size (.cells #[.int .i64 v0, .int .i64 v1, .int .i64 v2] 94)
      go_wp2_with fail
      generalize w1.alloc (.cells #[.int .i64 v0, .int .i64 v1, .int .i64 v2] 94) = W1 at *
      generalize w1.heap.size = g5 at *
      refine (hT.out _).mono ?_
      rintro e w2 ⟨rfl, b2⟩
      replace e2 := e2.below b2 e2.lt
      replace e5 := e5.below b2 e5.lt
      replace hb := hb.trans (b2.mono hb.size)
      cases bo
      · have hbf : tkB s = false := by rw [HB.out, hsx]; rfl
        have HC2 : Hid (takeC s = .agg #[.bool false, .int .i64 0, .int .i64 0, .int .i64 0, .int .i64 0]) := hid (by rw [HC.out, hbf]; rfl)
        have HE : Hid (takeE s = 3) := hid (by unfold takeE; rw [hbf]; rfl)
        clear hbf hsx
        go_upto_region 7 with (fail)
        have c0 : (w2).cell? ⟨w.heap.size, 0, none⟩ = some (.bool false) := e2.cell 0
        have c1 : (w2).cell? ⟨w.heap.size, 1, none⟩ = some (.int .i64 0) := e2.cell 1
        have c2 : (w2).cell? ⟨w.heap.size, 2, none⟩ = some (.int .i64 0) := e2.cell 2
        have c3 : (w2).cell? ⟨w.heap.size, 3, none⟩ = some (.int .i64 0) := e2.cell 3
        have c4 : (w2).cell? ⟨w.heap.size, 4, none⟩ = some (.int .i64 0) := e2.cell 4
        have z0 := e2.frozen 0
        have z1 := e2.frozen 1
        have z2 := e2.frozen 2
        have z3 := e2.frozen 3
        have z4 := e2.frozen 4
        go_wp2_with fail
        have t2 := (((((e2.set_ 0 (.bool false)).set_ 1 (.int .i64 0)).set_ 2 (.int .i64 0)).set_ 3 (.int .i64 0)).set_ 4 (.int .i64 0))
        have tb := (((((hb.setCell (p := ⟨w.heap.size, 0, none⟩) (by simp) (.bool false)).setCell (p := ⟨w.heap.size, 1, none⟩) (by simp) (.int .i64 0)).setCell (p := ⟨w.heap.size, 2, none⟩) (by simp) (.int .i64 0)).setCell (p := ⟨w.heap.size, 3, none⟩) (by simp) (.int .i64 0)).setCell (p := ⟨w.heap.size, 4, none⟩) (by simp) (.int .i64 0))
        refine bodyPost_ret (tk_results _ _ w.heap.size _ _ _ _ _ _ rfl rfl t2) rfl ⟨?_, tb⟩
        rw [HC2.out, HE.out]
        rfl
      · have hbt : tkB s = true := by rw [HB.out, hsx]; rfl
        have c0 : w2.cell? ⟨g5, 0, none⟩ = some (.int .i64 v0) := e5.cell 0
        have c1 : w2.cell? ⟨g5, 1, none⟩ = some (.int .i64 v1) := e5.cell 1
        have c2 : w2.cell? ⟨g5, 2, none⟩ = some (.int .i64 v2) := e5.cell 2
        have hlw2 := hb.size
        have e2l := e2.lt
        have e2a := e2.alloc (.cells #[.bool true, .int .i64 v0, .int .i64 v1, .int .i64 v2, .int .i64 bc] 62)
        have e9 := Blk.new w2 62 #[.bool true, .int .i64 v0, .int .i64 v1, .int .i64 v2, .int .i64 bc]
        have hba := hb.alloc hb.size (.cells #[.bool true, .int .i64 v0, .int .i64 v1, .int .i64 v2, .int .i64 bc] 62)
        have k0 : (w2.alloc (.cells #[.bool true, .int .i64 v0, .int .i64 v1, .int .i64 v2, .int .i64 bc] 62)).cell? ⟨w2.heap.size, 0, none⟩ = some (.bool true) := e9.cell 0
        have k1 : (w2.alloc (.cells #[.bool true, .int .i64 v0, .int .i64 v1, .int .i64 v2, .int .i64 bc] 62)).cell? ⟨w2.heap.size, 1, none⟩ = some (.int .i64 v0) := e9.cell 1
        have k2 : (w2.alloc (.cells #[.bool true, .int .i64 v0, .int .i64 v1, .int .i64 v2, .int .i64 bc] 62)).cell? ⟨w2.heap.size, 2, none⟩ = some (.int .i64 v1) := e9.cell 2
        have k3 : (w2.alloc (.cells #[.bool true, .int .i64 v0, .int .i64 v1, .int .i64 v2, .int .i64 bc] 62)).cell? ⟨w2.heap.size, 3, none⟩ = some (.int .i64 v2) := e9.cell 3
        have k4 : (w2.alloc (.cells #[.bool true, .int .i64 v0, .int .i64 v1, .int .i64 v2, .int .i64 bc] 62)).cell? ⟨w2.heap.size, 4, none⟩ = some (.int .i64 bc) := e9.cell 4
        clear hsx
        go_wp2_with fail
        clear c0 c1 c2 k0 k1 k2 k3 k4 e2 hb e5
        generalize w2.alloc (.cells #[.bool true, .int .i64 v0, .int .i64 v1, .int .i64 v2, .int .i64 bc] 62) = W2 at *
        generalize w2.heap.size = g9 at *
        refine (HMY.out _).mono ?_
        rintro e w3 ⟨rfl, b3⟩
        have e2 := e2a.below b3 e2a.lt
        replace e9 := e9.below b3 e9.lt
        have hb := hba.trans (b3.mono hba.size)
        clear e2a hba b3 b2 b1
        cases my
        · have HC2 : Hid (takeC s = .agg #[.bool false, .int .i64 0, .int .i64 0, .int .i64 0, .int .i64 0]) := hid (by rw [HC.out, HM.out, if_neg (by simp)])
          have HE : Hid (takeE s = 5) := hid (by unfold takeE; rw [hbt, HM.out]; rfl)
          clear hbt
          go_upto_region 10 with (fail)
          have c0 : (w3).cell? ⟨w.heap.size, 0, none⟩ = some (.bool false) := e2.cell 0
          have c1 : (w3).cell? ⟨w.heap.size, 1, none⟩ = some (.int .i64 0) := e2.cell 1
          have c2 : (w3).cell? ⟨w.heap.size, 2, none⟩ = some (.int .i64 0) := e2.cell 2
          have c3 : (w3).cell? ⟨w.heap.size, 3, none⟩ = some (.int .i64 0) := e2.cell 3
          have c4 : (w3).cell? ⟨w.heap.size, 4, none⟩ = some (.int .i64 0) := e2.cell 4
          have z0 := e2.frozen 0
          have z1 := e2.frozen 1
          have z2 := e2.frozen 2
          have z3 := e2.frozen 3
          have z4 := e2.frozen 4
          go_wp2_with fail
          have t2 := (((((e2.set_ 0 (.bool false)).set_ 1 (.int .i64 0)).set_ 2 (.int .i64 0)).set_ 3 (.int .i64 0)).set_ 4 (.int .i64 0))
          have tb := (((((hb.setCell (p := ⟨w.heap.size, 0, none⟩) (by simp) (.bool false)).setCell (p := ⟨w.heap.size, 1, none⟩) (by simp) (.int .i64 0)).setCell (p := ⟨w.heap.size, 2, none⟩) (by simp) (.int .i64 0)).setCell (p := ⟨w.heap.size, 3, none⟩) (by simp) (.int .i64 0)).setCell (p := ⟨w.heap.size, 4, none⟩) (by simp) (.int .i64 0))
          refine bodyPost_ret (tk_results _ _ w.heap.size _ _ _ _ _ _ rfl rfl t2) rfl ⟨?_, tb⟩
          rw [HC2.out, HE.out]
          rfl
        · have HC2 : Hid (takeC s = .agg #[.bool true, .int .i64 v0, .int .i64 v1, .int .i64 v2, .int .i64 bc]) := hid (by rw [HC.out, HM.out, if_pos ⟨hbt, rfl⟩])
          have HE : Hid (takeE s = 0) := hid (by unfold takeE; rw [hbt, HM.out]; rfl)
          clear hbt
          go_upto_region 11 with (fail)
          have k0 : (w3).cell? ⟨g9, 0, none⟩ = some (.bool true) := e9.cell 0
          have k1 : (w3).cell? ⟨g9, 1, none⟩ = some (.int .i64 v0) := e9.cell 1
          have k2 : (w3).cell? ⟨g9, 2, none⟩ = some (.int .i64 v1) := e9.cell 2
          have k3 : (w3).cell? ⟨g9, 3, none⟩ = some (.int .i64 v2) := e9.cell 3
          have k4 : (w3).cell? ⟨g9, 4, none⟩ = some (.int .i64 bc) := e9.cell 4
          have c0 : (w3).cell? ⟨w.heap.size, 0, none⟩ = some (.bool false) := e2.cell 0
          have c1 : (w3).cell? ⟨w.heap.size, 1, none⟩ = some (.int .i64 0) := e2.cell 1
          have c2 : (w3).cell? ⟨w.heap.size, 2, none⟩ = some (.int .i64 0) := e2.cell 2
          have c3 : (w3).cell? ⟨w.heap.size, 3, none⟩ = some (.int .i64 0) := e2.cell 3
          have c4 : (w3).cell? ⟨w.heap.size, 4, none⟩ = some (.int .i64 0) := e2.cell 4
          have z0 := e2.frozen 0
          have z1 := e2.frozen 1
          have z2 := e2.frozen 2
          have z3 := e2.frozen 3
          have z4 := e2.frozen 4
          go_wp2_with fail
          have t2 := (((((e2.set_ 0 (.bool true)).set_ 1 (.int .i64 v0)).set_ 2 (.int .i64 v1)).set_ 3 (.int .i64 v2)).set_ 4 (.int .i64 bc))
          have tb := (((((hb.setCell (p := ⟨w.heap.size, 0, none⟩) (by simp) (.bool true)).setCell (p := ⟨w.heap.size, 1, none⟩) (by simp) (.int .i64 v0)).setCell (p := ⟨w.heap.size, 2, none⟩) (by simp) (.int .i64 v1)).setCell (p := ⟨w.heap.size, 3, none⟩) (by simp) (.int .i64 v2)).setCell (p := ⟨w.heap.size, 4, none⟩) (by simp) (.int .i64 bc))
          refine bodyPost_ret (tk_results _ _ w.heap.size _ _ _ _ _ _ rfl rfl t2) rfl ⟨?_, tb⟩
          rw [HC2.out, HE.out]
          rfl
    · replace e2 := (e2.below b1 e2.lt).alloc (.cells #[.int .i64 a, .int .i64 b, .int .i64 c] 94)
      replace hb := hb.trans (b1.mono hb.size)
      have hlw := hb.size
      replace hb := hb.alloc hb.size (.cells #[.int .i64 a, .int .i64 b, .int .i64 c] 94)
      have hbf : tkB s = false := by rw [HB.out, hsx]; rfl
      have HC2 : Hid (takeC s = .agg #[.bool false, .int .i64 0, .int .i64 0, .int .i64 0, .int .i64 0]) := hid (by rw [HC.out, hbf]; rfl)
      have HE : Hid (takeE s = 3) := hid (by unfold takeE; rw [hbf]; rfl)
      clear hbf hsx
      go_wp2_with fail
      generalize w1.alloc (.cells #[.int .i64 a, .int .i64 b, .int .i64 c] 94) = W1 at *
      refine (hT.out _).mono ?_
      rintro e w2 ⟨rfl, b2⟩
      replace e2 := e2.below b2 e2.lt
      replace hb := hb.trans (b2.mono hb.size)
      go_upto_region 7 with (fail)
      have c0 : (w2).cell? ⟨w.heap.size, 0, none⟩ = some (.bool false) := e2.cell 0
      have c1 : (w2).cell? ⟨w.heap.size, 1, none⟩ = some (.int .i64 0) := e2.cell 1
      have c2 : (w2).cell? ⟨w.heap.size, 2, none⟩ = some (.int .i64 0) := e2.cell 2
      have c3 : (w2).cell? ⟨w.heap.size, 3, none⟩ = some (.int .i64 0) := e2.cell 3
      have c4 : (w2).cell? ⟨w.heap.size, 4, none⟩ = some (.int .i64 0) := e2.cell 4
      have z0 := e2.frozen 0
      have z1 := e2.frozen 1
      have z2 := e2.frozen 2
      have z3 := e2.frozen 3
      have z4 := e2.frozen 4
      go_wp2_with fail
      have t2 := (((((e2.set_ 0 (.bool false)).set_ 1 (.int .i64 0)).set_ 2 (.int .i64 0)).set_ 3 (.int .i64 0)).set_ 4 (.int .i64 0))
      have tb := (((((hb.setCell (p := ⟨w.heap.size, 0, none⟩) (by simp) (.bool false)).setCell (p := ⟨w.heap.size, 1, none⟩) (by simp) (.int .i64 0)).setCell (p := ⟨w.heap.size, 2, none⟩) (by simp) (.int .i64 0)).setCell (p := ⟨w.heap.size, 3, none⟩) (by simp) (.int .i64 0)).setCell (p := ⟨w.heap.size, 4, none⟩) (by simp) (.int .i64 0))
      refine bodyPost_ret (tk_results _ _ w.heap.size _ _ _ _ _ _ rfl rfl t2) rfl ⟨?_, tb⟩
      rw [HC2.out, HE.out]
      rfl
end Go.Proofs.Ytbhfidneijogfaa
