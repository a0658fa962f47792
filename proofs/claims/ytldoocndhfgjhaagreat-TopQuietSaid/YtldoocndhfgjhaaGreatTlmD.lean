/- Chapter 32: packets are taken. -/
import Derived.Test.YtldoocndhfgjhaaGreatTlmC
namespace Go.Proofs.YtldoocndhfgjhaaGreat
open Go.RowKit
set_option linter.unusedVariables false
set_option linter.unusedSimpArgs false

theorem t_cut (g k n c : Nat) (A : Option Addr) (w : World) (h : Blk w g 112 #[.slice A n c]) (hk : k ≤ n) (hc : n ≤ c) :
    Calls Tryz.prog 21 #[.pointer (some ⟨g, 0, none⟩), .int .i64 k] w fun e w' => e = .returned (.slice A k k) ∧ w' = w.setCell ⟨g, 0, none⟩ (.slice (cutA A c k) (n - k) (c - k)) := by
  have c0 : w.cell? ⟨g, 0, none⟩ = some (.slice A n c) := h.cell 0
  have z0 := h.frozen 0
  obtain ⟨i0, hi, hz, hz1, hz2⟩ := info_parts3 info_u8
  have r1 := fun w => run_head 28 5 i0 Tryz.underlying28 hi hz1 A n c k hk hc w
  have r2 := fun w => run_cut (P := Tryz.prog) 28 5 i0 Tryz.underlying28 hi hz1 A n c k hk w
  generalize cutA A c k = B at *
  clear h
  go_enter Tryz.func21, Tryz.ntmps21
  go_wp2
  go_ret
  exact ⟨rfl, rfl⟩
theorem run_mid {P : Program} (t e : TypeId) (i : TypeInfo) (ht : P.underlying t = some (.slice e)) (hi : P.info? e = some i) (hs : i.size = 1) (A : Option Addr) (n cap lo hi' : Nat) (hk : lo ≤ hi') (hn : hi' ≤ cap) (w : World) :
    (Instr.slice t (.slice A n cap) (some (.int .i64 (lo : Int))) (some (.int .i64 (hi' : Int))) none).run P w = .ok (.slice (cutA A cap lo) (hi' - lo) (cap - lo)) w := by
  have h1 : (0 : Int) ≤ (lo : Int) ∧ (lo : Int) ≤ (hi' : Int) := by omega
  have h2 : lo ≤ cap := by omega
  simp [Instr.slice, run_underlying ht, Instr.sliceBounds, Instr.sliceBound, asIntOf, hk, hn, h2, sizeOf, typeInfo, hi, hs, cutA]
theorem own_sets {k : IntKind} {w : World} {base : Nat} {e : TypeId} {A : Option Addr} {n c g : Nat} {ys : List Int} {t : TypeId} {cs : Array Value} (h : Own k w base e A n c ys) (hb : Blk w g t cs) (hne : e ≠ t) (v0 v1 v2 v3 v4 : Value) :
    Own k (((((w.setCell ⟨g, 0, none⟩ v0).setCell ⟨g, 1, none⟩ v1).setCell ⟨g, 2, none⟩ v2).setCell ⟨g, 3, none⟩ v3).setCell ⟨g, 4, none⟩ v4) base e A n c ys :=
  ((((h.setFar hb hne 0 v0).setFar (hb.set_ 0 v0) hne 1 v1).setFar ((hb.set_ 0 v0).set_ 1 v1) hne 2 v2).setFar (((hb.set_ 0 v0).set_ 1 v1).set_ 2 v2) hne 3 v3).setFar ((((hb.set_ 0 v0).set_ 1 v1).set_ 2 v2).set_ 3 v3) hne 4 v4
theorem results_ctt {P : Program} {fn : Func} {p u v : Tmp} {ty : TypeId} (h : fn.results = #[.cell p ty, .tmp u, .tmp v]) (tmps : Array Value) (w : World) (g : Nat) (t : TypeId) (cs : Array Value) (fr : Nat × Nat) (d : TypeDesc)
    (hp : tmps.getD p undef = .pointer (some ⟨g, 0, none⟩)) (hg : w.heap[g]? = some (.cells cs t fr))
    (hu : P.underlying ty = some d) (hd : (match d with | .struct _ | .array _ _ => true | _ => false) = true) (hi : (P.info? ty).map (·.size) = some cs.size) :
    (results fn tmps).run P w = .ok (.tuple #[.agg cs, tmps.getD u undef, tmps.getD v undef]) w := by
  have hp' : tmps[p]?.getD undef = .pointer (some ⟨g, 0, none⟩) := by simpa using hp
  simp [results, h, hp', asAddr, run_loadVar_row w g t ty cs fr d hg hu hd hi]
theorem pkt_mid0 (seq : Int) (vs : List Int) : ((pkt0 seq vs).drop 1).take 14 = (hp0 seq vs).drop 1 := by
  unfold pkt0
  rw [List.drop_append_of_le_length (by rw [hp_len0]; omega), List.take_left' (by rw [List.length_drop, hp_len0])]
theorem pkt_tail0 (seq : Int) (vs : List Int) : (pkt0 seq vs).drop 15 = sumL (xtP name0 parts0 6) ((hp0 seq vs).drop 1) := by
  unfold pkt0
  rw [List.drop_left' (hp_len0 seq vs)]
theorem pkt_body0 (seq : Int) (vs : List Int) : ((pkt0 seq vs).drop 6).take 9 = bd0 vs := by
  have h : (pkt0 seq vs).drop 6 = bd0 vs ++ sumL (xtP name0 parts0 6) ((hp0 seq vs).drop 1) := rfl
  rw [h, List.take_left' (bd_len0 vs)]
/-- What a packet's bytes give. -/
def Taken0 (seq : Int) (vs : List Int) (w : World) (e : Ending) (w' : World) : Prop := ∃ g, e = .returned (.tuple #[.agg #[.int .i64 seq, .int .i64 1, .int .i64 1, .int .i64 0, .slice (some ⟨g, 0, none⟩) 6 6], .int .i64 17, .int .i64 0]) ∧ Own .i64 w' w.heap.size 2 (some ⟨g, 0, none⟩) 6 6 vs ∧ Below w.heap.size w w'
set_option maxRecDepth 40000 in
set_option maxHeartbeats 16000000 in
theorem t_Take0 (seq : Int) (bd : Addr) (cap : Nat) (vs : List Int) (w : World) (hs : U8 seq) (hcap : 17 ≤ cap) (hvs : vs.length = 6) (hr : Row .u8 w w.heap.size (some bd) 17 (pkt0 seq vs)) (hk : ∀ j, j < 6 → VK (fs0[j]?.getD (0, false)).1 (fs0[j]?.getD (0, false)).2 ((wireP ss0 vs)[j]?.getD 0)) :
    Calls Tryz.prog 7 #[.slice (some bd) 17 cap] w (Taken0 seq vs w) := by
  obtain ⟨i0, hi, hz, hz1, hz2⟩ := info_parts3 info_u8
  have HR := hid hr
  have HTK := hid fun bd cap w h => sc_Take0 bd cap 9 vs w hvs (bd_len0 vs) h hk
  have HO : Hid (∀ g w', Own .i64 w' w.heap.size 2 (some ⟨g, 0, none⟩) 6 6 vs → Below w.heap.size w w' → Taken0 seq vs w (.returned (.tuple #[.agg #[.int .i64 seq, .int .i64 1, .int .i64 1, .int .i64 0, .slice (some ⟨g, 0, none⟩) 6 6], .int .i64 17, .int .i64 0])) w') := hid fun g w' h1 h2 => ⟨g, rfl, h1, h2⟩
  have HIN := hid (hp_in0 seq vs hs)
  have HM := hid (pkt_mid0 seq vs)
  have HTl := hid (pkt_tail0 seq vs)
  have HBo := hid (pkt_body0 seq vs)
  have HC : Hid (∀ W, Below w.heap.size w W → W.cell? bd = some (.int .u8 254) ∧ W.cell? { block := bd.block, off := bd.off + 1 } = some (.int .u8 9) ∧ W.cell? { block := bd.block, off := bd.off + 2 } = some (.int .u8 seq) ∧ W.cell? { block := bd.block, off := bd.off + 3 } = some (.int .u8 1) ∧ W.cell? { block := bd.block, off := bd.off + 4 } = some (.int .u8 1) ∧ W.cell? { block := bd.block, off := bd.off + 5 } = some (.int .u8 0)) := hid fun W hb => by
    have h := fun j (hj : j < 17) => ((HR.out.below hb).2.2 bd rfl j hj).2
    have h0 := h 0 (by omega)
    have h1 := h 1 (by omega)
    have h2 := h 2 (by omega)
    have h3 := h 3 (by omega)
    have h4 := h 4 (by omega)
    have h5 := h 5 (by omega)
    rw [add_succ] at h1 h2 h3 h4 h5
    exact ⟨h0, h1, h2, h3, h4, h5⟩
  have hs8 := hs
  unfold U8 at hs
  have rm : ∀ w, (Instr.slice 28 (.slice (some bd) 17 cap) (some (.int .i64 1)) (some (.int .i64 15)) none).run Tryz.prog w = .ok (.slice (cutA (some bd) cap 1) 14 (cap - 1)) w := fun w => run_mid (P := Tryz.prog) 28 5 i0 Tryz.underlying28 hi hz1 (some bd) 17 cap 1 15 (by omega) (by omega) w
  have hmf : ∀ (fn : Fn) (first cap : Array Value) (w : World), (Instr.makeFunc fn first cap).run Tryz.prog w = .ok (.func fn first cap) w := fun _ _ _ _ => rfl
  have e0 := Blk.new w 38 #[.int .i64 0, .int .i64 0, .int .i64 0, .int .i64 0, .slice none 0 0]
  have hb := (Below.refl w.heap.size w).alloc (Nat.le_refl _) (.cells #[.int .i64 0, .int .i64 0, .int .i64 0, .int .i64 0, .slice none 0 0] 38)
  have hg0 : w.heap.size < (w.alloc (.cells #[.int .i64 0, .int .i64 0, .int .i64 0, .int .i64 0, .slice none 0 0] 38)).heap.size := by simp
  clear hr hk hvs
  go_enter Tryz.func7, Tryz.ntmps7
  go_upto_region 1 with fail
  generalize w.alloc (.cells #[.int .i64 0, .int .i64 0, .int .i64 0, .int .i64 0, .slice none 0 0] 38) = W0 at *
  obtain ⟨q0, q1, q2, q3, q4, q5⟩ := HC.out W0 hb
  go_wp2_with fail
  clear q0 q1 q2 q3 q4 q5
  refine (t_Size0 W0).mono ?_
  rintro e w1 ⟨rfl, b1⟩
  replace e0 := e0.below b1 e0.lt
  replace hb := hb.trans (b1.mono hb.size)
  replace hg0 := Nat.lt_of_lt_of_le hg0 b1.size
  clear b1
  obtain ⟨q0, q1, q2, q3, q4, q5⟩ := HC.out w1 hb
  go_upto_region 16 with fail
  clear q0 q1 q2 q3 q4 q5
  have ey := Blk.new w1 112 #[.slice (some bd) 17 cap]
  replace e0 := e0.alloc (.cells #[.slice (some bd) 17 cap] 112)
  replace hb := hb.alloc hb.size (.cells #[.slice (some bd) 17 cap] 112)
  generalize w1.alloc (.cells #[.slice (some bd) 17 cap] 112) = W1 at *
  generalize w1.heap.size = ge at *
  go_wp2_with fail
  refine (t_cut ge 6 17 cap (some bd) W1 ey (by omega) hcap).mono ?_
  rintro e V0 ⟨rfl, rfl⟩
  have ey2 := ey.set_ 0 (.slice (cutA (some bd) cap 6) (17 - 6) (cap - 6))
  simp only [List.setIfInBounds_toArray, List.set_cons_zero, List.set_cons_succ] at ey2
  replace e0 := e0.far (p := ⟨ge, 0, none⟩) (by dsimp only; omega) (.slice (cutA (some bd) cap 6) (17 - 6) (cap - 6))
  replace hb := hb.setCell (p := ⟨ge, 0, none⟩) (by dsimp only; omega) (.slice (cutA (some bd) cap 6) (17 - 6) (cap - 6))
  clear ey
  have ey := ey2
  clear ey2
  generalize W1.setCell ⟨ge, 0, none⟩ (.slice (cutA (some bd) cap 6) (17 - 6) (cap - 6)) = V0 at *
  obtain ⟨A1, hA1⟩ : ∃ A1, cutA (some bd) cap 6 = A1 := ⟨_, rfl⟩
  obtain ⟨cp1, hc1⟩ : ∃ c, cap - 6 = c := ⟨_, rfl⟩
  rw [hA1, hc1] at ey
  have HA1 := hid hA1
  have HC1 := hid hc1
  have ey2 : Blk V0 ge 112 #[.slice A1 11 cp1] := ey
  clear ey
  have ey := ey2
  clear ey2
  go_wp2_with fail
  refine (t_cut ge 9 11 cp1 A1 V0 ey (by omega) (by omega)).mono ?_
  rintro e V1 ⟨rfl, rfl⟩
  have ey2 := ey.set_ 0 (.slice (cutA A1 cp1 9) (11 - 9) (cp1 - 9))
  simp only [List.setIfInBounds_toArray, List.set_cons_zero, List.set_cons_succ] at ey2
  replace e0 := e0.far (p := ⟨ge, 0, none⟩) (by dsimp only; omega) (.slice (cutA A1 cp1 9) (11 - 9) (cp1 - 9))
  replace hb := hb.setCell (p := ⟨ge, 0, none⟩) (by dsimp only; omega) (.slice (cutA A1 cp1 9) (11 - 9) (cp1 - 9))
  clear ey
  have ey := ey2
  clear ey2
  generalize V0.setCell ⟨ge, 0, none⟩ (.slice (cutA A1 cp1 9) (11 - 9) (cp1 - 9)) = V1 at *
  obtain ⟨A2, hA2⟩ : ∃ A2, cutA A1 cp1 9 = A2 := ⟨_, rfl⟩
  obtain ⟨cp2, hc2⟩ : ∃ c, cp1 - 9 = c := ⟨_, rfl⟩
  rw [hA2, hc2] at ey
  have HA2 := hid hA2
  have HC2 := hid hc2
  have ey2 : Blk V1 ge 112 #[.slice A2 2 cp2] := ey
  clear ey
  have ey := ey2
  clear ey2
  go_wp2_with fail
  refine (t_cut ge 2 2 cp2 A2 V1 ey (by omega) (by omega)).mono ?_
  rintro e V2 ⟨rfl, rfl⟩
  have ey2 := ey.set_ 0 (.slice (cutA A2 cp2 2) (2 - 2) (cp2 - 2))
  simp only [List.setIfInBounds_toArray, List.set_cons_zero, List.set_cons_succ] at ey2
  replace e0 := e0.far (p := ⟨ge, 0, none⟩) (by dsimp only; omega) (.slice (cutA A2 cp2 2) (2 - 2) (cp2 - 2))
  replace hb := hb.setCell (p := ⟨ge, 0, none⟩) (by dsimp only; omega) (.slice (cutA A2 cp2 2) (2 - 2) (cp2 - 2))
  clear ey
  have ey := ey2
  clear ey2
  generalize V1.setCell ⟨ge, 0, none⟩ (.slice (cutA A2 cp2 2) (2 - 2) (cp2 - 2)) = V2 at *
  have hr2 := HR.out.below hb
  have hmid := (hr2.cut (j := 1) (by omega) hcap).take (m := 14) (by omega) (fun e => by unfold cutA at e; split at e <;> cases e)
  rw [HM.out] at hmid
  have HSM := hid (t_sum0 (cutA (some bd) cap 1) 14 (cap - 1) _ V2 (hmid.more hb.size) (by omega) (fun y hy => HIN.out y (List.mem_of_mem_drop hy)))
  clear hmid hr2
  generalize cutA (some bd) cap 1 = Zm at *
  go_wp2_with fail
  refine HSM.out.mono ?_
  rintro e w4 ⟨S4, c4, rfl, o4, b4⟩
  replace e0 := e0.below b4 e0.lt
  replace hb := hb.trans (b4.mono hb.size)
  clear b4 HSM ey
  have hr3 := HR.out.below hb
  have h6 := hr3.cut (j := 6) (by omega) hcap
  rw [HA1.out] at h6
  have h7 := h6.cut (cap := cp1) (j := 9) (by omega) (by have := HC1.out; omega)
  rw [HA2.out, List.drop_drop] at h7
  have h8 : Row .u8 w4 w.heap.size A2 2 (sumL (xtP name0 parts0 6) ((hp0 seq vs).drop 1)) := by
    have h := HTl.out
    have h7' : Row .u8 w4 w.heap.size A2 2 ((pkt0 seq vs).drop 15) := h7
    rw [h] at h7'
    exact h7'
  have h9 := h6.take (m := 9) (by omega) (fun e => by rw [← HA1.out] at e; unfold cutA at e; split at e <;> cases e)
  rw [HBo.out] at h9
  have HEQ := hid (t_Equal 2 2 c4 A2 S4 _ w4 (h8.more hb.size) o4.row (by omega))
  clear h6 h7 h8 hr3 o4
  go_wp2_with fail
  refine HEQ.out.mono ?_
  rintro e w5 ⟨rfl, b5⟩
  replace e0 := e0.below b5 e0.lt
  have h10 := h9.below (show Below w.heap.size w4 w5 from b5.mono hb.size)
  replace hb := hb.trans (b5.mono hb.size)
  clear b5 HEQ h9
  obtain ⟨a1, ha1⟩ : ∃ a, A1 = some a := by
    cases A1 with
    | none => have := h10.2.1 rfl; omega
    | some a => exact ⟨a, rfl⟩
  subst ha1
  have HT2 := hid (HTK.out a1 9 w5 (h10.more hb.size))
  clear h10
  go_wp2_with fail
  refine HT2.out.mono ?_
  rintro e w6 ⟨gv, rfl, o6, b6⟩
  replace o6 := own_lower o6 hb.size
  replace e0 := e0.below b6 e0.lt
  replace hb := hb.trans (b6.mono hb.size)
  have HO6 := hid o6
  clear b6 HT2 o6
  go_upto_region 23 with fail
  obtain ⟨q0, q1, q2, q3, q4, q5⟩ := HC.out w6 hb
  refine wp_region_noPanic ?_
  refine wp_region_held_drew (S := (fun w' : World => w'.cell? { block := bd.block, off := bd.off + 2 } = some (.int .u8 seq) ∧ w'.cell? { block := bd.block, off := bd.off + 3 } = some (.int .u8 1) ∧ w'.cell? { block := bd.block, off := bd.off + 4 } = some (.int .u8 1))) (by kernel_rfl) ⟨q2, q3, q4⟩ (fun hHeld => ?_)
  refine (show wpAnyH _ _ _ _ _ 20 _ _ _ from ?_)
  try (simp only [Act.put, List.setIfInBounds_toArray, List.set_cons_zero, List.set_cons_succ])
  clear q0 q1 q2 q3 q4 q5
  have us : IntKind.i64.wrap seq = seq := IntWalk.i64_in _ (by omega)
  have u1 : IntKind.i64.wrap 1 = 1 := by decide
  replace e0 := e0.drew
  replace hb := hb.drew
  have HO7 := hid (HO6.out.drew)
  generalize w6.drew = V6 at *
  refine tk 0 hHeld ?_
  refine tk 1 hHeld ?_
  refine tk 2 hHeld ?_
  refine tk 3 hHeld ?_
  refine tk 4 hHeld ?_
  refine tk 5 hHeld ?_
  refine tk 6 hHeld ?_
  refine tk 7 hHeld ?_
  refine tk 8 hHeld ?_
  refine tk 9 hHeld ?_
  refine tk 10 hHeld ?_
  refine tk 11 hHeld ?_
  refine tk 12 hHeld ?_
  refine tk 13 hHeld ?_
  refine tk 14 hHeld ?_
  refine tk 15 hHeld ?_
  refine tk 16 hHeld ?_
  refine rd1 17 (fun K hK => ?_)
  have c0 : V6.cell? ⟨w.heap.size, 0, none⟩ = some (.int .i64 0) := e0.cell 0
  have c1 : V6.cell? ⟨w.heap.size, 1, none⟩ = some (.int .i64 0) := e0.cell 1
  have c2 : V6.cell? ⟨w.heap.size, 2, none⟩ = some (.int .i64 0) := e0.cell 2
  have c3 : V6.cell? ⟨w.heap.size, 3, none⟩ = some (.int .i64 0) := e0.cell 3
  have c4' : V6.cell? ⟨w.heap.size, 4, none⟩ = some (.slice none 0 0) := e0.cell 4
  have z0 := e0.frozen 0
  have z1 := e0.frozen 1
  have z2 := e0.frozen 2
  have z3 := e0.frozen 3
  have z4 := e0.frozen 4
  go_simp
  try go_wp2_with fail
  clear c0 c1 c2 c3 c4' z0 z1 z2 z3 z4
  have t0 := (((((e0.set_ 0 (.int .i64 seq)).set_ 1 (.int .i64 1)).set_ 2 (.int .i64 1)).set_ 3 (.int .i64 0)).set_ 4 (.slice (some ⟨gv, 0, none⟩) 6 6))
  simp only [List.setIfInBounds_toArray, List.set_cons_zero, List.set_cons_succ] at t0
  have tb := (((((hb.setCell (p := ⟨w.heap.size, 0, none⟩) (Nat.le_refl _) (.int .i64 seq)).setCell (p := ⟨w.heap.size, 1, none⟩) (Nat.le_refl _) (.int .i64 1)).setCell (p := ⟨w.heap.size, 2, none⟩) (Nat.le_refl _) (.int .i64 1)).setCell (p := ⟨w.heap.size, 3, none⟩) (Nat.le_refl _) (.int .i64 0)).setCell (p := ⟨w.heap.size, 4, none⟩) (Nat.le_refl _) (.slice (some ⟨gv, 0, none⟩) 6 6))
  have HO8 := hid (own_sets HO7.out e0 (by decide) (.int .i64 seq) (.int .i64 1) (.int .i64 1) (.int .i64 0) (.slice (some ⟨gv, 0, none⟩) 6 6))
  generalize (((((V6.setCell ⟨w.heap.size, 0, none⟩ (.int .i64 seq)).setCell ⟨w.heap.size, 1, none⟩ (.int .i64 1)).setCell ⟨w.heap.size, 2, none⟩ (.int .i64 1)).setCell ⟨w.heap.size, 3, none⟩ (.int .i64 0)).setCell ⟨w.heap.size, 4, none⟩ (.slice (some ⟨gv, 0, none⟩) 6 6)) = V7 at *
  refine hK.out _ _ (by obtain ⟨_, _, q2, q3, q4, _⟩ := HC.out V7 tb; exact ⟨q2, q3, q4⟩) (fun hHeld => ?_)
  clear hK K
  try (simp only [Act.put, List.setIfInBounds_toArray, List.set_cons_zero, List.set_cons_succ])
  refine tk 18 hHeld ?_
  refine tk 19 hHeld ?_
  refine wpAnyH_done (by kernel_rfl) ?_ _
  refine NoPanic.normal ?_
  clear hHeld
  go_wp2_with fail
  refine bodyPost_ret (results_ctt rfl _ _ w.heap.size _ _ _ _ rfl t0 Tryz.underlying38 rfl (by kernel_rfl)) rfl ?_
  exact HO.out _ _ HO8.out tb
theorem pkt_mid200 (seq : Int) (vs : List Int) : ((pkt200 seq vs).drop 1).take 19 = (hp200 seq vs).drop 1 := by
  unfold pkt200
  rw [List.drop_append_of_le_length (by rw [hp_len200]; omega), List.take_left' (by rw [List.length_drop, hp_len200])]
theorem pkt_tail200 (seq : Int) (vs : List Int) : (pkt200 seq vs).drop 20 = sumL (xtP name200 parts200 5) ((hp200 seq vs).drop 1) := by
  unfold pkt200
  rw [List.drop_left' (hp_len200 seq vs)]
theorem pkt_body200 (seq : Int) (vs : List Int) : ((pkt200 seq vs).drop 6).take 14 = bd200 vs := by
  have h : (pkt200 seq vs).drop 6 = bd200 vs ++ sumL (xtP name200 parts200 5) ((hp200 seq vs).drop 1) := rfl
  rw [h, List.take_left' (bd_len200 vs)]
/-- What a packet's bytes give. -/
def Taken200 (seq : Int) (vs : List Int) (w : World) (e : Ending) (w' : World) : Prop := ∃ g, e = .returned (.tuple #[.agg #[.int .i64 seq, .int .i64 1, .int .i64 1, .int .i64 200, .slice (some ⟨g, 0, none⟩) 5 5], .int .i64 22, .int .i64 0]) ∧ Own .i64 w' w.heap.size 2 (some ⟨g, 0, none⟩) 5 5 vs ∧ Below w.heap.size w w'
set_option maxRecDepth 40000 in
set_option maxHeartbeats 16000000 in
theorem t_Take200 (seq : Int) (bd : Addr) (cap : Nat) (vs : List Int) (w : World) (hs : U8 seq) (hcap : 22 ≤ cap) (hvs : vs.length = 5) (hr : Row .u8 w w.heap.size (some bd) 22 (pkt200 seq vs)) (hk : ∀ j, j < 5 → VK (fs200[j]?.getD (0, false)).1 (fs200[j]?.getD (0, false)).2 ((wireP ss200 vs)[j]?.getD 0)) :
    Calls Tryz.prog 7 #[.slice (some bd) 22 cap] w (Taken200 seq vs w) := by
  obtain ⟨i0, hi, hz, hz1, hz2⟩ := info_parts3 info_u8
  have HR := hid hr
  have HTK := hid fun bd cap w h => sc_Take200 bd cap 14 vs w hvs (bd_len200 vs) h hk
  have HO : Hid (∀ g w', Own .i64 w' w.heap.size 2 (some ⟨g, 0, none⟩) 5 5 vs → Below w.heap.size w w' → Taken200 seq vs w (.returned (.tuple #[.agg #[.int .i64 seq, .int .i64 1, .int .i64 1, .int .i64 200, .slice (some ⟨g, 0, none⟩) 5 5], .int .i64 22, .int .i64 0])) w') := hid fun g w' h1 h2 => ⟨g, rfl, h1, h2⟩
  have HIN := hid (hp_in200 seq vs hs)
  have HM := hid (pkt_mid200 seq vs)
  have HTl := hid (pkt_tail200 seq vs)
  have HBo := hid (pkt_body200 seq vs)
  have HC : Hid (∀ W, Below w.heap.size w W → W.cell? bd = some (.int .u8 254) ∧ W.cell? { block := bd.block, off := bd.off + 1 } = some (.int .u8 14) ∧ W.cell? { block := bd.block, off := bd.off + 2 } = some (.int .u8 seq) ∧ W.cell? { block := bd.block, off := bd.off + 3 } = some (.int .u8 1) ∧ W.cell? { block := bd.block, off := bd.off + 4 } = some (.int .u8 1) ∧ W.cell? { block := bd.block, off := bd.off + 5 } = some (.int .u8 200)) := hid fun W hb => by
    have h := fun j (hj : j < 22) => ((HR.out.below hb).2.2 bd rfl j hj).2
    have h0 := h 0 (by omega)
    have h1 := h 1 (by omega)
    have h2 := h 2 (by omega)
    have h3 := h 3 (by omega)
    have h4 := h 4 (by omega)
    have h5 := h 5 (by omega)
    rw [add_succ] at h1 h2 h3 h4 h5
    exact ⟨h0, h1, h2, h3, h4, h5⟩
  have hs8 := hs
  unfold U8 at hs
  have rm : ∀ w, (Instr.slice 28 (.slice (some bd) 22 cap) (some (.int .i64 1)) (some (.int .i64 20)) none).run Tryz.prog w = .ok (.slice (cutA (some bd) cap 1) 19 (cap - 1)) w := fun w => run_mid (P := Tryz.prog) 28 5 i0 Tryz.underlying28 hi hz1 (some bd) 22 cap 1 20 (by omega) (by omega) w
  have hmf : ∀ (fn : Fn) (first cap : Array Value) (w : World), (Instr.makeFunc fn first cap).run Tryz.prog w = .ok (.func fn first cap) w := fun _ _ _ _ => rfl
  have e0 := Blk.new w 38 #[.int .i64 0, .int .i64 0, .int .i64 0, .int .i64 0, .slice none 0 0]
  have hb := (Below.refl w.heap.size w).alloc (Nat.le_refl _) (.cells #[.int .i64 0, .int .i64 0, .int .i64 0, .int .i64 0, .slice none 0 0] 38)
  have hg0 : w.heap.size < (w.alloc (.cells #[.int .i64 0, .int .i64 0, .int .i64 0, .int .i64 0, .slice none 0 0] 38)).heap.size := by simp
  clear hr hk hvs
  go_enter Tryz.func7, Tryz.ntmps7
  go_upto_region 1 with fail
  generalize w.alloc (.cells #[.int .i64 0, .int .i64 0, .int .i64 0, .int .i64 0, .slice none 0 0] 38) = W0 at *
  obtain ⟨q0, q1, q2, q3, q4, q5⟩ := HC.out W0 hb
  go_wp2_with fail
  clear q0 q1 q2 q3 q4 q5
  refine (t_Size200 W0).mono ?_
  rintro e w1 ⟨rfl, b1⟩
  replace e0 := e0.below b1 e0.lt
  replace hb := hb.trans (b1.mono hb.size)
  replace hg0 := Nat.lt_of_lt_of_le hg0 b1.size
  clear b1
  obtain ⟨q0, q1, q2, q3, q4, q5⟩ := HC.out w1 hb
  go_upto_region 16 with fail
  clear q0 q1 q2 q3 q4 q5
  have ey := Blk.new w1 112 #[.slice (some bd) 22 cap]
  replace e0 := e0.alloc (.cells #[.slice (some bd) 22 cap] 112)
  replace hb := hb.alloc hb.size (.cells #[.slice (some bd) 22 cap] 112)
  generalize w1.alloc (.cells #[.slice (some bd) 22 cap] 112) = W1 at *
  generalize w1.heap.size = ge at *
  go_wp2_with fail
  refine (t_cut ge 6 22 cap (some bd) W1 ey (by omega) hcap).mono ?_
  rintro e V0 ⟨rfl, rfl⟩
  have ey2 := ey.set_ 0 (.slice (cutA (some bd) cap 6) (22 - 6) (cap - 6))
  simp only [List.setIfInBounds_toArray, List.set_cons_zero, List.set_cons_succ] at ey2
  replace e0 := e0.far (p := ⟨ge, 0, none⟩) (by dsimp only; omega) (.slice (cutA (some bd) cap 6) (22 - 6) (cap - 6))
  replace hb := hb.setCell (p := ⟨ge, 0, none⟩) (by dsimp only; omega) (.slice (cutA (some bd) cap 6) (22 - 6) (cap - 6))
  clear ey
  have ey := ey2
  clear ey2
  generalize W1.setCell ⟨ge, 0, none⟩ (.slice (cutA (some bd) cap 6) (22 - 6) (cap - 6)) = V0 at *
  obtain ⟨A1, hA1⟩ : ∃ A1, cutA (some bd) cap 6 = A1 := ⟨_, rfl⟩
  obtain ⟨cp1, hc1⟩ : ∃ c, cap - 6 = c := ⟨_, rfl⟩
  rw [hA1, hc1] at ey
  have HA1 := hid hA1
  have HC1 := hid hc1
  have ey2 : Blk V0 ge 112 #[.slice A1 16 cp1] := ey
  clear ey
  have ey := ey2
  clear ey2
  go_wp2_with fail
  refine (t_cut ge 14 16 cp1 A1 V0 ey (by omega) (by omega)).mono ?_
  rintro e V1 ⟨rfl, rfl⟩
  have ey2 := ey.set_ 0 (.slice (cutA A1 cp1 14) (16 - 14) (cp1 - 14))
  simp only [List.setIfInBounds_toArray, List.set_cons_zero, List.set_cons_succ] at ey2
  replace e0 := e0.far (p := ⟨ge, 0, none⟩) (by dsimp only; omega) (.slice (cutA A1 cp1 14) (16 - 14) (cp1 - 14))
  replace hb := hb.setCell (p := ⟨ge, 0, none⟩) (by dsimp only; omega) (.slice (cutA A1 cp1 14) (16 - 14) (cp1 - 14))
  clear ey
  have ey := ey2
  clear ey2
  generalize V0.setCell ⟨ge, 0, none⟩ (.slice (cutA A1 cp1 14) (16 - 14) (cp1 - 14)) = V1 at *
  obtain ⟨A2, hA2⟩ : ∃ A2, cutA A1 cp1 14 = A2 := ⟨_, rfl⟩
  obtain ⟨cp2, hc2⟩ : ∃ c, cp1 - 14 = c := ⟨_, rfl⟩
  rw [hA2, hc2] at ey
  have HA2 := hid hA2
  have HC2 := hid hc2
  have ey2 : Blk V1 ge 112 #[.slice A2 2 cp2] := ey
  clear ey
  have ey := ey2
  clear ey2
  go_wp2_with fail
  refine (t_cut ge 2 2 cp2 A2 V1 ey (by omega) (by omega)).mono ?_
  rintro e V2 ⟨rfl, rfl⟩
  have ey2 := ey.set_ 0 (.slice (cutA A2 cp2 2) (2 - 2) (cp2 - 2))
  simp only [List.setIfInBounds_toArray, List.set_cons_zero, List.set_cons_succ] at ey2
  replace e0 := e0.far (p := ⟨ge, 0, none⟩) (by dsimp only; omega) (.slice (cutA A2 cp2 2) (2 - 2) (cp2 - 2))
  replace hb := hb.setCell (p := ⟨ge, 0, none⟩) (by dsimp only; omega) (.slice (cutA A2 cp2 2) (2 - 2) (cp2 - 2))
  clear ey
  have ey := ey2
  clear ey2
  generalize V1.setCell ⟨ge, 0, none⟩ (.slice (cutA A2 cp2 2) (2 - 2) (cp2 - 2)) = V2 at *
  have hr2 := HR.out.below hb
  have hmid := (hr2.cut (j := 1) (by omega) hcap).take (m := 19) (by omega) (fun e => by unfold cutA at e; split at e <;> cases e)
  rw [HM.out] at hmid
  have HSM := hid (t_sum200 (cutA (some bd) cap 1) 19 (cap - 1) _ V2 (hmid.more hb.size) (by omega) (fun y hy => HIN.out y (List.mem_of_mem_drop hy)))
  clear hmid hr2
  generalize cutA (some bd) cap 1 = Zm at *
  go_wp2_with fail
  refine HSM.out.mono ?_
  rintro e w4 ⟨S4, c4, rfl, o4, b4⟩
  replace e0 := e0.below b4 e0.lt
  replace hb := hb.trans (b4.mono hb.size)
  clear b4 HSM ey
  have hr3 := HR.out.below hb
  have h6 := hr3.cut (j := 6) (by omega) hcap
  rw [HA1.out] at h6
  have h7 := h6.cut (cap := cp1) (j := 14) (by omega) (by have := HC1.out; omega)
  rw [HA2.out, List.drop_drop] at h7
  have h8 : Row .u8 w4 w.heap.size A2 2 (sumL (xtP name200 parts200 5) ((hp200 seq vs).drop 1)) := by
    have h := HTl.out
    have h7' : Row .u8 w4 w.heap.size A2 2 ((pkt200 seq vs).drop 20) := h7
    rw [h] at h7'
    exact h7'
  have h9 := h6.take (m := 14) (by omega) (fun e => by rw [← HA1.out] at e; unfold cutA at e; split at e <;> cases e)
  rw [HBo.out] at h9
  have HEQ := hid (t_Equal 2 2 c4 A2 S4 _ w4 (h8.more hb.size) o4.row (by omega))
  clear h6 h7 h8 hr3 o4
  go_wp2_with fail
  refine HEQ.out.mono ?_
  rintro e w5 ⟨rfl, b5⟩
  replace e0 := e0.below b5 e0.lt
  have h10 := h9.below (show Below w.heap.size w4 w5 from b5.mono hb.size)
  replace hb := hb.trans (b5.mono hb.size)
  clear b5 HEQ h9
  obtain ⟨a1, ha1⟩ : ∃ a, A1 = some a := by
    cases A1 with
    | none => have := h10.2.1 rfl; omega
    | some a => exact ⟨a, rfl⟩
  subst ha1
  have HT2 := hid (HTK.out a1 14 w5 (h10.more hb.size))
  clear h10
  go_wp2_with fail
  refine HT2.out.mono ?_
  rintro e w6 ⟨gv, rfl, o6, b6⟩
  replace o6 := own_lower o6 hb.size
  replace e0 := e0.below b6 e0.lt
  replace hb := hb.trans (b6.mono hb.size)
  have HO6 := hid o6
  clear b6 HT2 o6
  go_upto_region 23 with fail
  obtain ⟨q0, q1, q2, q3, q4, q5⟩ := HC.out w6 hb
  refine wp_region_noPanic ?_
  refine wp_region_held_drew (S := (fun w' : World => w'.cell? { block := bd.block, off := bd.off + 2 } = some (.int .u8 seq) ∧ w'.cell? { block := bd.block, off := bd.off + 3 } = some (.int .u8 1) ∧ w'.cell? { block := bd.block, off := bd.off + 4 } = some (.int .u8 1))) (by kernel_rfl) ⟨q2, q3, q4⟩ (fun hHeld => ?_)
  refine (show wpAnyH _ _ _ _ _ 20 _ _ _ from ?_)
  try (simp only [Act.put, List.setIfInBounds_toArray, List.set_cons_zero, List.set_cons_succ])
  clear q0 q1 q2 q3 q4 q5
  have us : IntKind.i64.wrap seq = seq := IntWalk.i64_in _ (by omega)
  have u1 : IntKind.i64.wrap 1 = 1 := by decide
  replace e0 := e0.drew
  replace hb := hb.drew
  have HO7 := hid (HO6.out.drew)
  generalize w6.drew = V6 at *
  refine tk 0 hHeld ?_
  refine tk 1 hHeld ?_
  refine tk 2 hHeld ?_
  refine tk 3 hHeld ?_
  refine tk 4 hHeld ?_
  refine tk 5 hHeld ?_
  refine tk 6 hHeld ?_
  refine tk 7 hHeld ?_
  refine tk 8 hHeld ?_
  refine tk 9 hHeld ?_
  refine tk 10 hHeld ?_
  refine tk 11 hHeld ?_
  refine tk 12 hHeld ?_
  refine tk 13 hHeld ?_
  refine tk 14 hHeld ?_
  refine tk 15 hHeld ?_
  refine tk 16 hHeld ?_
  refine rd1 17 (fun K hK => ?_)
  have c0 : V6.cell? ⟨w.heap.size, 0, none⟩ = some (.int .i64 0) := e0.cell 0
  have c1 : V6.cell? ⟨w.heap.size, 1, none⟩ = some (.int .i64 0) := e0.cell 1
  have c2 : V6.cell? ⟨w.heap.size, 2, none⟩ = some (.int .i64 0) := e0.cell 2
  have c3 : V6.cell? ⟨w.heap.size, 3, none⟩ = some (.int .i64 0) := e0.cell 3
  have c4' : V6.cell? ⟨w.heap.size, 4, none⟩ = some (.slice none 0 0) := e0.cell 4
  have z0 := e0.frozen 0
  have z1 := e0.frozen 1
  have z2 := e0.frozen 2
  have z3 := e0.frozen 3
  have z4 := e0.frozen 4
  go_simp
  try go_wp2_with fail
  clear c0 c1 c2 c3 c4' z0 z1 z2 z3 z4
  have t0 := (((((e0.set_ 0 (.int .i64 seq)).set_ 1 (.int .i64 1)).set_ 2 (.int .i64 1)).set_ 3 (.int .i64 200)).set_ 4 (.slice (some ⟨gv, 0, none⟩) 5 5))
  simp only [List.setIfInBounds_toArray, List.set_cons_zero, List.set_cons_succ] at t0
  have tb := (((((hb.setCell (p := ⟨w.heap.size, 0, none⟩) (Nat.le_refl _) (.int .i64 seq)).setCell (p := ⟨w.heap.size, 1, none⟩) (Nat.le_refl _) (.int .i64 1)).setCell (p := ⟨w.heap.size, 2, none⟩) (Nat.le_refl _) (.int .i64 1)).setCell (p := ⟨w.heap.size, 3, none⟩) (Nat.le_refl _) (.int .i64 200)).setCell (p := ⟨w.heap.size, 4, none⟩) (Nat.le_refl _) (.slice (some ⟨gv, 0, none⟩) 5 5))
  have HO8 := hid (own_sets HO7.out e0 (by decide) (.int .i64 seq) (.int .i64 1) (.int .i64 1) (.int .i64 200) (.slice (some ⟨gv, 0, none⟩) 5 5))
  generalize (((((V6.setCell ⟨w.heap.size, 0, none⟩ (.int .i64 seq)).setCell ⟨w.heap.size, 1, none⟩ (.int .i64 1)).setCell ⟨w.heap.size, 2, none⟩ (.int .i64 1)).setCell ⟨w.heap.size, 3, none⟩ (.int .i64 200)).setCell ⟨w.heap.size, 4, none⟩ (.slice (some ⟨gv, 0, none⟩) 5 5)) = V7 at *
  refine hK.out _ _ (by obtain ⟨_, _, q2, q3, q4, _⟩ := HC.out V7 tb; exact ⟨q2, q3, q4⟩) (fun hHeld => ?_)
  clear hK K
  try (simp only [Act.put, List.setIfInBounds_toArray, List.set_cons_zero, List.set_cons_succ])
  refine tk 18 hHeld ?_
  refine tk 19 hHeld ?_
  refine wpAnyH_done (by kernel_rfl) ?_ _
  refine NoPanic.normal ?_
  clear hHeld
  go_wp2_with fail
  refine bodyPost_ret (results_ctt rfl _ _ w.heap.size _ _ _ _ rfl t0 Tryz.underlying38 rfl (by kernel_rfl)) rfl ?_
  exact HO.out _ _ HO8.out tb
end Go.Proofs.YtldoocndhfgjhaaGreat
