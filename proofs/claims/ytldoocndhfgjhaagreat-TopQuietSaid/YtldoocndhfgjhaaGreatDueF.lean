/- Chapter 44: a step; the looks. -/
import Derived.Test.YtldoocndhfgjhaaGreatNodeJ
import Derived.Test.YtldoocndhfgjhaaGreatNodeG
import Derived.Test.YtldoocndhfgjhaaGreatWide
import Derived.RangeFuncRecord
namespace Go.Proofs.YtldoocndhfgjhaaGreat
open Go.RowKit
set_option linter.unusedVariables false
set_option linter.unusedSimpArgs false

/-- A node between two steps. -/
structure NIdle (w : World) (nb db wa q mb g cap tA tB : Nat) (s now : Int) (H A B : Value) (k : Nat) : Prop where
  node : Blk w nb 106 (.int .i64 1 :: .int .i64 1 :: .int .i64 s :: .slice none 0 0 :: ndR now db q H A B).toArray
  dec : Blk w db 125 (decC wa)
  tms : Tms w q mb g cap tA tB (dueB k) (dueW k)
theorem n_there (nb db : Nat) (cs : Array Value) (w : World) (hN : Blk w nb 106 cs) (h5 : cs[5]? = some (.pointer (some ⟨db, 0, none⟩))) : Calls Tryz.prog 18 #[.pointer (some ⟨nb, 0, none⟩)] w fun e w' => e = .returned (.bool true) ∧ w' = w := by
  have q5 : w.cell? ⟨nb, 5, none⟩ = some (.pointer (some ⟨db, 0, none⟩)) := (hN.cell 5).trans h5
  clear hN h5
  go_enter Tryz.func18, Tryz.ntmps18
  go_wp2
  go_ret
  exact ⟨rfl, rfl⟩
theorem n_way (w : World) : Calls Tryz.prog 19 #[.int .i64 1] w fun e w' => e = .returned (.func (Fn.func 32) #[] #[]) ∧ w' = w := by
  go_enter Tryz.func19, Tryz.ntmps19
  go_wp2
  go_ret
  exact ⟨rfl, rfl⟩
theorem n_Now (nb db wa q mb g cap tA tB k : Nat) (s now : Int) (H A B : Value) (w : World) (h : NIdle w nb db wa q mb g cap tA tB s now H A B k) : Calls Tryz.prog 9 #[.pointer (some ⟨nb, 0, none⟩)] w fun e w' => e = .returned (.int .i64 now) ∧ w' = w := by
  have HT := hid (n_there nb db _ w h.node rfl)
  have q4 : w.cell? ⟨nb, 4, none⟩ = some (.int .i64 now) := h.node.cell 4
  clear h
  go_enter Tryz.func9, Tryz.ntmps9
  go_wp2_with fail
  refine HT.out.mono ?_
  rintro e w1 ⟨rfl, rfl⟩
  go_wp2
  go_ret
  exact ⟨rfl, rfl⟩
set_option maxRecDepth 20000 in
theorem n_Filter (nb db wa q mb g cap tA tB k : Nat) (s now : Int) (H A B : Value) (w : World) (h : NIdle w nb db wa q mb g cap tA tB s now H A B k) : Calls Tryz.prog 10 #[.pointer (some ⟨nb, 0, none⟩)] w fun e w' => e = .returned (.agg #[.int .i32 1073741824, .int .i32 0, .int .i32 0, .int .i32 0, .int .i32 0, .int .i32 0, .int .i32 0, .int .i64 0, .int .i64 0]) ∧ Below w.heap.size w w' := by
  have hN1 := h.node.alloc (.cells #[.int .i32 0, .int .i32 0, .int .i32 0, .int .i32 0, .int .i32 0, .int .i32 0, .int .i32 0, .int .i64 0, .int .i64 0] 83)
  have e1 := Blk.new w 83 #[.int .i32 0, .int .i32 0, .int .i32 0, .int .i32 0, .int .i32 0, .int .i32 0, .int .i32 0, .int .i64 0, .int .i64 0]
  have hb := (Below.refl w.heap.size w).alloc (Nat.le_refl _) (.cells #[.int .i32 0, .int .i32 0, .int .i32 0, .int .i32 0, .int .i32 0, .int .i32 0, .int .i32 0, .int .i64 0, .int .i64 0] 83)
  clear h
  go_enter Tryz.func10, Tryz.ntmps10
  go_upto_region 1 with fail
  generalize w.alloc (.cells #[.int .i32 0, .int .i32 0, .int .i32 0, .int .i32 0, .int .i32 0, .int .i32 0, .int .i32 0, .int .i64 0, .int .i64 0] 83) = W0 at *
  have HT := hid (n_there nb db _ W0 hN1 rfl)
  have q6 : W0.cell? ⟨nb, 6, none⟩ = some (.int .i32 1073741824) := hN1.cell 6
  have q7 : W0.cell? ⟨nb, 7, none⟩ = some (.int .i32 0) := hN1.cell 7
  have q8 : W0.cell? ⟨nb, 8, none⟩ = some (.int .i32 0) := hN1.cell 8
  have q9 : W0.cell? ⟨nb, 9, none⟩ = some (.int .i32 0) := hN1.cell 9
  have q10 : W0.cell? ⟨nb, 10, none⟩ = some (.int .i32 0) := hN1.cell 10
  have q11 : W0.cell? ⟨nb, 11, none⟩ = some (.int .i32 0) := hN1.cell 11
  have q12 : W0.cell? ⟨nb, 12, none⟩ = some (.int .i32 0) := hN1.cell 12
  have q13 : W0.cell? ⟨nb, 13, none⟩ = some (.int .i64 0) := hN1.cell 13
  have q14 : W0.cell? ⟨nb, 14, none⟩ = some (.int .i64 0) := hN1.cell 14
  go_wp2_with fail
  refine HT.out.mono ?_
  rintro e w1 ⟨rfl, rfl⟩
  have t1 := e1.setRow #[.int .i32 1073741824, .int .i32 0, .int .i32 0, .int .i32 0, .int .i32 0, .int .i32 0, .int .i32 0, .int .i64 0, .int .i64 0]
  have t2 := below_setRow hb (Nat.le_refl _) #[.int .i32 1073741824, .int .i32 0, .int .i32 0, .int .i32 0, .int .i32 0, .int .i32 0, .int .i32 0, .int .i64 0, .int .i64 0]
  clear hN1
  go_wp2_with (refine wpList_store_rowTo rfl 83 _ _ rfl rfl w.heap.size #[.int .i32 1073741824, .int .i32 0, .int .i32 0, .int .i32 0, .int .i32 0, .int .i32 0, .int .i32 0, .int .i64 0, .int .i64 0] rfl rfl 83 #[.int .i32 0, .int .i32 0, .int .i32 0, .int .i32 0, .int .i32 0, .int .i32 0, .int .i32 0, .int .i64 0, .int .i64 0] e1 (by kernel_rfl) (by kernel_rfl) (by kernel_rfl) ?_)
  refine bodyPost_ret (results_cell_row rfl _ _ w.heap.size _ _ _ _ rfl t1 Tryz.underlying83 rfl (by kernel_rfl)) rfl ?_
  exact ⟨rfl, t2⟩
/-- What a step leaves. -/
def Did (nb db wa q mb g cap tA tB i0 : Nat) (now : Int) (H A B : Value) (w : World) (e : Ending) (w' : World) : Prop :=
  ∃ (n c base : Nat) (O : Option Addr) (s : Int) (evs : List (List Value)), e = .returned (.slice O n c) ∧ w.heap.size ≤ base ∧ i0 + n = cntP now ∧ s = ((i0 + n : Nat) : Int) ∧ NIdle w' nb db wa q mb g cap tA tB s now H A B (i0 + n) ∧ OTab 123 w' base 75 O n c evs ∧ base ≤ w'.heap.size ∧ Evs w' i0 evs ∧ Kept (PD nb g tA tB) w w'
set_option maxRecDepth 20000 in
set_option maxHeartbeats 4000000 in
theorem n_Do (hW : Word0) (nb db wa q mb g cap tA tB i0 : Nat) (s now0 dt now : Int) (H A B : Value) (w : World) (hs : s = ((i0 : Nat) : Int)) (hi0 : i0 = cntP now0) (hnow : now0 + dt = now) (h0 : 0 ≤ now0) (hdt : 0 ≤ dt ∧ dt ≤ 10000) (hmax : now ≤ 300000) (h : NIdle w nb db wa q mb g cap tA tB s now0 H A B i0) :
    Calls Tryz.prog 6 #[.pointer (some ⟨nb, 0, none⟩), .agg #[.int .i64 1, .slice none 0 0, .int .i64 dt, .int .i64 0, .slice none 0 0, .int .i64 0, .slice none 0 0]] w (Did nb db wa q mb g cap tA tB i0 now H A B w) := by
  have HTK := hid (fun w hN hD hT => n_tick hW nb db wa q mb g cap tA tB i0 s now0 dt now H A B w hs hi0 hnow h0 hdt hmax hN hD hT)
  have hK := (Kept.refl (PD nb g tA tB) w).alloc (.cells #[.int .i64 1, .slice none 0 0, .int .i64 dt, .int .i64 0, .slice none 0 0, .int .i64 0, .slice none 0 0] 36)
  have hN1 := h.node.alloc (.cells #[.int .i64 1, .slice none 0 0, .int .i64 dt, .int .i64 0, .slice none 0 0, .int .i64 0, .slice none 0 0] 36)
  have hD1 := h.dec.alloc (.cells #[.int .i64 1, .slice none 0 0, .int .i64 dt, .int .i64 0, .slice none 0 0, .int .i64 0, .slice none 0 0] 36)
  have e1 := Blk.new w 36 #[.int .i64 1, .slice none 0 0, .int .i64 dt, .int .i64 0, .slice none 0 0, .int .i64 0, .slice none 0 0]
  have hT1 := h.tms.keptP ((Kept.refl (fun _ => False) w).alloc (.cells #[.int .i64 1, .slice none 0 0, .int .i64 dt, .int .i64 0, .slice none 0 0, .int .i64 0, .slice none 0 0] 36)) (fun _ _ _ h => h.elim)
  clear hW hs hi0 hnow h0 hdt hmax h
  go_enter Tryz.func6, Tryz.ntmps6
  go_upto_region 1 with fail
  generalize w.alloc (.cells #[.int .i64 1, .slice none 0 0, .int .i64 dt, .int .i64 0, .slice none 0 0, .int .i64 0, .slice none 0 0] 36) = W0 at *
  go_wp2_with fail
  refine (n_there nb db _ W0 hN1 rfl).mono ?_
  rintro e w1 ⟨rfl, rfl⟩
  have z3 := hN1.frozen 3
  have y3 : w1.cell? ⟨nb, 3, none⟩ = some (.slice none 0 0) := hN1.cell 3
  go_upto_region 4 with fail
  clear z3 y3
  have t1 := hN1.set_ 3 (.slice none 0 0)
  simp only [List.setIfInBounds_toArray, List.set_cons_zero, List.set_cons_succ] at t1
  have hD2 := hD1.far (p := ⟨nb, 3, none⟩) (hD1.ne_ hN1 (by decide)) (.slice none 0 0)
  have e2 := e1.far (p := ⟨nb, 3, none⟩) (e1.ne_ hN1 (by decide)) (.slice none 0 0)
  have hK2 := hK.set_ (p := ⟨nb, 3, none⟩) (Or.inl (Or.inl rfl)) (.slice none 0 0)
  have hk1 : Kept (fun i => i = nb) w1 (w1.setCell ⟨nb, 3, none⟩ (.slice none 0 0)) := (Kept.refl (fun i => i = nb) w1).set_ (p := ⟨nb, 3, none⟩) (Or.inl rfl) (.slice none 0 0)
  have hT2 := hT1.keptP hk1 (fun i t cs hi hB ht => by
    subst hi
    have := hB.alone hN1
    subst this
    revert ht; decide)
  clear hN1 hD1 hK hT1 hk1 e1
  generalize w1.setCell ⟨nb, 3, none⟩ (.slice none 0 0) = W1 at *
  have p0 : W1.cell? ⟨w.heap.size, 0, none⟩ = some (.int .i64 1) := e2.cell 0
  have p1 : W1.cell? ⟨w.heap.size, 1, none⟩ = some (.slice none 0 0) := e2.cell 1
  have p2 : W1.cell? ⟨w.heap.size, 2, none⟩ = some (.int .i64 dt) := e2.cell 2
  have p3 : W1.cell? ⟨w.heap.size, 3, none⟩ = some (.int .i64 0) := e2.cell 3
  have p4 : W1.cell? ⟨w.heap.size, 4, none⟩ = some (.slice none 0 0) := e2.cell 4
  have p5 : W1.cell? ⟨w.heap.size, 5, none⟩ = some (.int .i64 0) := e2.cell 5
  have p6 : W1.cell? ⟨w.heap.size, 6, none⟩ = some (.slice none 0 0) := e2.cell 6
  go_wp2_with fail
  refine (n_way W1).mono ?_
  rintro e w2 ⟨rfl, rfl⟩
  go_wp2_with fail
  refine (HTK.out w2 t1 hD2 hT2).mono ?_
  rintro e w3 ⟨rfl, n, c, base, O, s3, evs, hbs, hcnt, hst, hk3⟩
  clear p0 p1 p2 p3 p4 p5 p6 t1 hD2 hT2 e2
  have hK3 := hK2.trans hk3
  have hbs2 := Nat.le_trans hK2.below.size hbs
  clear hbs hk3 hK2
  have hnode := hst.node
  have q3 : w3.cell? ⟨nb, 3, none⟩ = some (.slice O n c) := hnode.cell 3
  go_upto_region 7 with fail
  clear q3
  have z3 := hnode.frozen 3
  have y3 : w3.cell? ⟨nb, 3, none⟩ = some (.slice O n c) := hnode.cell 3
  have t2 := hnode.set_ 3 (.slice none 0 0)
  simp only [List.setIfInBounds_toArray, List.set_cons_zero, List.set_cons_succ] at t2
  have hk1 : Kept (fun i => i = nb) w3 (w3.setCell ⟨nb, 3, none⟩ (.slice none 0 0)) := (Kept.refl (fun i => i = nb) w3).set_ (p := ⟨nb, 3, none⟩) (Or.inl rfl) (.slice none 0 0)
  have hT4 := hst.tms.keptP hk1 (fun i t cs hi hB ht => by
    subst hi
    have := hB.alone hnode
    subst this
    revert ht; decide)
  have hD4 := hk1.blk hst.dec (hst.dec.ne_ hnode (by decide))
  have hO4 := hst.out.keptP hk1 (fun i cs hi hB => by subst hi; exact absurd (hB.alone hnode) (by decide))
  have hE4 := hst.evs_.keptP hk1 (fun i cs hi hB => by subst hi; exact absurd (hB.alone hnode) (by decide))
  have hK4 := hK3.trans (hk1.mono fun i hi => Or.inl hi)
  have HF : Hid (Did nb db wa q mb g cap tA tB i0 now H A B w (.returned (.slice O n c)) (w3.setCell ⟨nb, 3, none⟩ (.slice none 0 0))) := hid ⟨n, c, base, O, s3, evs, rfl, hbs2, hcnt, hst.sent, ⟨t2, hD4, hT4⟩, hO4, Nat.le_trans hst.low hk1.below.size, hE4, hK4⟩
  clear t2 hk1 hT4 hD4 hO4 hE4 hK4 hst hnode hcnt hbs2 hK3
  go_wp2_with fail
  go_ret
  exact HF.out
end Go.Proofs.YtldoocndhfgjhaaGreat
namespace Go.Proofs.YtldoocndhfgjhaaGreat
open Go.RowKit
set_option linter.unusedVariables false
set_option linter.unusedSimpArgs false

/-- A call gave a pointer to something new. -/
def Fresh (w : World) (e : Ending) (w' : World) : Prop := ∃ g : Nat, e = .returned (.pointer (some ⟨g, 0, none⟩)) ∧ Below w.heap.size w w'
theorem a_New (w : World) : Calls Tryz.prog 15 #[] w (Fresh w) := by
  go_enter Tryz.func15, Tryz.ntmps15
  go_wp2
  go_ret
  exact ⟨_, rfl, (Below.refl w.heap.size w).alloc (Nat.le_refl _) _⟩
theorem v_New (w : World) : Calls Tryz.prog 16 #[] w (Fresh w) := by
  go_enter Tryz.func16, Tryz.ntmps16
  go_wp2
  go_ret
  exact ⟨_, rfl, (Below.refl w.heap.size w).alloc (Nat.le_refl _) _⟩
theorem g_New (w : World) : Calls Tryz.prog 14 #[] w (Fresh w) := by
  have hMM : ∀ w, (Instr.makeMap 131 none).run Tryz.prog w = .ok (.map (some w.heap.size)) (w.alloc (.map #[] 0)) := fun _ => rfl
  have hb := ((Below.refl w.heap.size w).alloc (Nat.le_refl _) (.map #[] 0))
  go_enter Tryz.func14, Tryz.ntmps14
  go_wp2
  go_ret
  exact ⟨_, rfl, hb.alloc (by simp) _⟩
theorem w_New (w : World) : Calls Tryz.prog 26 #[] w (Fresh w) := by
  go_enter Tryz.func26, Tryz.ntmps26
  go_wp2
  go_ret
  exact ⟨_, rfl, (Below.refl w.heap.size w).alloc (Nat.le_refl _) _⟩
/-- A decoder is made. -/
def FreshD (w : World) (e : Ending) (w' : World) : Prop := ∃ db wa : Nat, e = .returned (.pointer (some ⟨db, 0, none⟩)) ∧ Blk w' db 125 (decC wa) ∧ Below w.heap.size w w'
theorem y_New (w : World) : Calls Tryz.prog 12 #[] w (FreshD w) := by
  go_enter Tryz.func12, Tryz.ntmps12
  go_wp2_with fail
  refine (w_New w).mono ?_
  rintro e w1 ⟨wa, rfl, hb⟩
  have e1 := Blk.new w1 125 (decC wa)
  have hb2 := hb.alloc hb.size (.cells (decC wa) 125)
  have HF := hid e1
  have HG := hid hb2
  clear e1 hb2 hb
  go_wp2
  go_ret
  exact ⟨_, wa, rfl, HF.out, HG.out⟩
end Go.Proofs.YtldoocndhfgjhaaGreat
namespace Go.Proofs.YtldoocndhfgjhaaGreat
open Go.RowKit
set_option linter.unusedVariables false
set_option linter.unusedSimpArgs false

/-- A map's block: its keys are whole numbers. -/
def MapAt (w : World) (m : Nat) (es : Array MapEntry) (c : Nat) : Prop := w.heap[m]? = some (.map es c)
def NotIn (x : Int) : List MapEntry → Prop
  | [] => True
  | e :: es => (∃ y, e.key = .int .i64 y ∧ y ≠ x) ∧ NotIn x es
theorem find_not (d : TypeDesc) (hd : d = .int .i64) (x : Int) : ∀ (es : List MapEntry) (i : Nat), NotIn x es → Instr.findNow d (.int .i64 x) es i = some none := by
  subst hd
  intro es
  induction es with
  | nil => intro i _; rfl
  | cons e es ih =>
    intro i h
    obtain ⟨⟨y, hy, hne⟩, h2⟩ := h
    have hs : Instr.sameNow (.int .i64) (.int .i64 x) e.key = some false := by
      rw [hy]
      simp [Instr.sameNow]
      exact fun e => hne e.symm
    simp only [Instr.findNow, hs]
    exact ih (i + 1) h2
theorem check_int (e : Bool) (n : Nat) (x : Int) (w : World) : (Instr.checkKey e (n + 1) 3 (.int .i64 x)).run Tryz.prog w = .ok () w := by
  simp [Instr.checkKey, run_underlying Tryz.underlying3]
theorem run_look_not (w : World) (m c : Nat) (x : Int) (es : Array MapEntry) (hm : MapAt w m es c) (hn : NotIn x es.toList) : (Instr.lookup 126 (.map (some m)) (.int .i64 x) true).run Tryz.prog w = .ok (.tuple #[.pointer none, .bool false]) w := by
  have hg : (getObj m).run Tryz.prog w = .ok (.map es c) w := by
    unfold MapAt at hm
    simp [getObj, Sem.run, hm]
  have hk : (Instr.checkKey es.isEmpty 10000 3 (.int .i64 x)).run Tryz.prog w = .ok () w := by
    exact check_int es.isEmpty 9999 x w
  have hf : (Instr.findKey 3 (.int .i64 x) es.toList).run Tryz.prog w = .ok none w := by
    simp [Instr.findKey, run_underlying Tryz.underlying3, find_not _ rfl x es.toList 0 hn]
  have hz : (zeroValue 140).run Tryz.prog w = .ok (.pointer none) w := by kernel_rfl
  simp [Instr.lookup, run_underlying Tryz.underlying126, hg, hk, hf, hz, Result.andThen]
theorem run_put_new (w : World) (m c : Nat) (x : Int) (v : Value) (es : Array MapEntry) (hm : MapAt w m es c) (hn : NotIn x es.toList) : (Instr.mapUpdate 126 (.map (some m)) (.int .i64 x) v).run Tryz.prog w = .ok () (w.putObj m (.map (es.push ⟨.int .i64 x, v, c⟩) (c + 1))) := by
  have hg : (getObj m).run Tryz.prog w = .ok (.map es c) w := by
    unfold MapAt at hm
    simp [getObj, Sem.run, hm]
  have hk : (Instr.checkKey false 10000 3 (.int .i64 x)).run Tryz.prog w = .ok () w := by
    exact check_int false 9999 x w
  have hf : (Instr.findKey 3 (.int .i64 x) es.toList).run Tryz.prog w = .ok none w := by
    simp [Instr.findKey, run_underlying Tryz.underlying3, find_not _ rfl x es.toList 0 hn]
  have hs : ∀ o, (setObj m o).run Tryz.prog w = .ok () (w.putObj m o) := by
    intro o
    unfold MapAt at hm
    simp [setObj, Sem.run, hm, World.putObj]
  simp [Instr.mapUpdate, run_underlying Tryz.underlying126, hg, hk, hf, hs, Result.andThen]
theorem d_in (n : Int) (w : World) (h : 0 ≤ n ∧ n ≤ 1000000) : Calls Tryz.prog 28 #[.int .i64 n] w fun e w' => e = .returned (.bool true) ∧ w' = w := by
  have d1 : decide (0 ≤ n) = true := decide_eq_true h.1
  have d2 : decide (n ≤ 1099511627776) = true := decide_eq_true (by omega)
  go_enter Tryz.func28, Tryz.ntmps28
  go_wp2
  go_ret
  exact ⟨rfl, rfl⟩
theorem d_New (w : World) : Calls Tryz.prog 13 #[] w fun e w' => e = .returned (.pointer (some ⟨w.heap.size + 1, 0, none⟩)) ∧ Blk w' (w.heap.size + 1) 130 #[.slice none 0 0, .map (some w.heap.size)] ∧ MapAt w' w.heap.size #[] 0 ∧ Below w.heap.size w w' := by
  have hb := ((Below.refl w.heap.size w).alloc (Nat.le_refl _) (.map #[] 0)).alloc (by simp) (.cells #[.slice none 0 0, .map (some w.heap.size)] 130)
  have e1 : MapAt (w.alloc (.map #[] 0)) w.heap.size #[] 0 := heap_alloc_new w _
  have e2 : MapAt ((w.alloc (.map #[] 0)).alloc (.cells #[.slice none 0 0, .map (some w.heap.size)] 130)) w.heap.size #[] 0 := (Below.heap_alloc _ _ _ (by simp)).trans e1
  have e3 := Blk.new (w.alloc (.map #[] 0)) 130 #[.slice none 0 0, .map (some w.heap.size)]
  simp only [World.size_alloc] at e3
  have HF := hid e2
  have HG := hid e3
  clear e1 e2 e3
  have hMM : ∀ w, (Instr.makeMap 126 none).run Tryz.prog w = .ok (.map (some w.heap.size)) (w.alloc (.map #[] 0)) := fun _ => rfl
  go_enter Tryz.func13, Tryz.ntmps13
  go_wp2
  go_ret
  exact ⟨rfl, HG.out, HF.out, hb⟩
theorem d_Unset (q m c : Nat) (x : Int) (v : Value) (es : Array MapEntry) (w : World) (hQ : Blk w q 130 #[v, .map (some m)]) (hm : MapAt w m es c) (hn : NotIn x es.toList) : Calls Tryz.prog 29 #[.pointer (some ⟨q, 0, none⟩), .int .i64 x] w fun e w' => e = .returned (.bool false) ∧ w' = w := by
  have HT := hid (d_there q m v w hQ)
  have q1 : w.cell? ⟨q, 1, none⟩ = some (.map (some m)) := hQ.cell 1
  have hl := run_look_not w m c x es hm hn
  clear hQ hm hn
  go_enter Tryz.func29, Tryz.ntmps29
  go_wp2_with fail
  refine HT.out.mono ?_
  rintro e w1 ⟨rfl, rfl⟩
  go_wp2
  go_ret
  exact ⟨rfl, rfl⟩
end Go.Proofs.YtldoocndhfgjhaaGreat
