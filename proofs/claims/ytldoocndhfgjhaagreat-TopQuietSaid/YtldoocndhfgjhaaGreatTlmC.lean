/- Chapter 32: packets are put. -/
import Derived.Test.YtldoocndhfgjhaaGreatTlmB
namespace Go.Proofs.YtldoocndhfgjhaaGreat
open Go.RowKit
set_option linter.unusedVariables false
set_option linter.unusedSimpArgs false

theorem t_octets (g : Nat) (a b c : Int) (t : TypeId) (w : World) (h : Blk w g t #[.int .i64 a, .int .i64 b, .int .i64 c]) (ha : U8 a) (hb : U8 b) (hc : U8 c) :
    Calls Tryz.prog 130 #[.slice (some ⟨g, 0, none⟩) 3 3] w fun e w' => e = .returned (.bool true) ∧ w' = w := by
  have q0 : w.cell? ⟨g, 0, none⟩ = some (.int .i64 a) := h.cell 0
  have q1 : w.cell? ⟨g, 1, none⟩ = some (.int .i64 b) := h.cell 1
  have q2 : w.cell? ⟨g, 2, none⟩ = some (.int .i64 c) := h.cell 2
  unfold U8 at *
  have e1 : a % 256 = a := by omega
  have e2 : b % 256 = b := by omega
  have e3 : c % 256 = c := by omega
  have w1 : IntKind.i64.wrap a = a := IntWalk.i64_in _ (by omega)
  have w2 : IntKind.i64.wrap b = b := IntWalk.i64_in _ (by omega)
  have w3 : IntKind.i64.wrap c = c := IntWalk.i64_in _ (by omega)
  clear h
  go_enter Tryz.func130, Tryz.ntmps130
  go_wp2
  refine wp_loop_rounds 4 ?_
  rw [rounds_succ]
  go_wp2_with fail
  rw [rounds_succ]
  go_wp2_with fail
  rw [rounds_succ]
  go_wp2_with fail
  rw [rounds_succ]
  go_wp2_with fail
  go_ret
  exact ⟨rfl, rfl⟩
theorem t_Size0 (w : World) : Calls Tryz.prog 20 #[.int .i64 0] w fun e w' => e = .returned (.int .i64 17) ∧ Below w.heap.size w w' := by
  go_enter Tryz.func20, Tryz.ntmps20
  go_wp2_with fail
  refine (s_Width0 w).mono ?_
  rintro e w1 ⟨rfl, b1⟩
  go_wp2
  go_ret
  exact ⟨rfl, b1⟩
/-- The bytes of a message's numbers; of its packet. -/
def bd0 (vs : List Int) : List Int := putB fs0 (wireP ss0 vs) 6
theorem bd_len0 (vs : List Int) : (bd0 vs).length = 9 := by
  have h := put_size fs0 (wireP ss0 vs) (by unfold FK; decide) 6 (by decide)
  have h2 : sizeP (fs0.take 6) = 9 := by decide
  unfold bd0
  omega
def hp0 (seq : Int) (vs : List Int) : List Int := [254, 9, seq, 1, 1, 0] ++ bd0 vs
theorem hp_len0 (seq : Int) (vs : List Int) : (hp0 seq vs).length = 15 := by
  unfold hp0
  rw [List.length_append, bd_len0]; rfl
def pkt0 (seq : Int) (vs : List Int) : List Int := hp0 seq vs ++ sumL (xtP name0 parts0 6) ((hp0 seq vs).drop 1)
theorem pkt_len0 (seq : Int) (vs : List Int) : (pkt0 seq vs).length = 17 := by
  unfold pkt0
  rw [List.length_append, hp_len0]; rfl
theorem t_Size200 (w : World) : Calls Tryz.prog 20 #[.int .i64 200] w fun e w' => e = .returned (.int .i64 22) ∧ Below w.heap.size w w' := by
  go_enter Tryz.func20, Tryz.ntmps20
  go_wp2_with fail
  refine (s_Width200 w).mono ?_
  rintro e w1 ⟨rfl, b1⟩
  go_wp2
  go_ret
  exact ⟨rfl, b1⟩
/-- The bytes of a message's numbers; of its packet. -/
def bd200 (vs : List Int) : List Int := putB fs200 (wireP ss200 vs) 5
theorem bd_len200 (vs : List Int) : (bd200 vs).length = 14 := by
  have h := put_size fs200 (wireP ss200 vs) (by unfold FK; decide) 5 (by decide)
  have h2 : sizeP (fs200.take 5) = 14 := by decide
  unfold bd200
  omega
def hp200 (seq : Int) (vs : List Int) : List Int := [254, 14, seq, 1, 1, 200] ++ bd200 vs
theorem hp_len200 (seq : Int) (vs : List Int) : (hp200 seq vs).length = 20 := by
  unfold hp200
  rw [List.length_append, bd_len200]; rfl
def pkt200 (seq : Int) (vs : List Int) : List Int := hp200 seq vs ++ sumL (xtP name200 parts200 5) ((hp200 seq vs).drop 1)
theorem pkt_len200 (seq : Int) (vs : List Int) : (pkt200 seq vs).length = 22 := by
  unfold pkt200
  rw [List.length_append, hp_len200]; rfl
theorem putB_in (fs : List (Int × Bool)) (xs : List Int) (j : Nat) : ∀ x ∈ putB fs xs j, U8 x := by
  induction j with
  | zero => intro x hx; cases hx
  | succ j ih =>
    intro x hx
    rcases List.mem_append.1 hx with h | h
    · exact ih x h
    · exact leP_in _ _ x h
theorem PutOut.to {bs : List Int} {w w' : World} {e : Ending} (h : PutOut bs w e w') (n : Nat) (hn : bs.length = n) : ∃ X d, e = .returned (.tuple #[.slice X n d, .int .i64 0]) ∧ Own .u8 w' w.heap.size 5 X n d bs ∧ Below w.heap.size w w' := by
  subst hn; exact h
theorem hp_in0 (seq : Int) (vs : List Int) (hs : U8 seq) : ∀ x ∈ hp0 seq vs, U8 x := by
  intro x hx
  unfold hp0 at hx
  rcases List.mem_append.1 hx with h | h
  · unfold U8 at *
    simp at h
    omega
  · exact putB_in _ _ _ x h
set_option maxRecDepth 20000 in
set_option maxHeartbeats 8000000 in
theorem t_Put0 (seq : Int) (B : Option Addr) (cap : Nat) (vs : List Int) (w : World) (hs : U8 seq) (hv : Row .i64 w w.heap.size B 6 vs) (hk : ∀ j, j < 6 → VK (fs0[j]?.getD (0, false)).1 (fs0[j]?.getD (0, false)).2 ((wireP ss0 vs)[j]?.getD 0)) :
    Calls Tryz.prog 88 #[.agg #[.int .i64 seq, .int .i64 1, .int .i64 1, .int .i64 0, .slice B 6 cap]] w (PutOut (pkt0 seq vs) w) := by
  obtain ⟨i0, hi, hz, hz1, hz2⟩ := info_parts3 info_u8
  have HO : Hid (∀ X c w', Own .u8 w' w.heap.size 5 X 17 c (pkt0 seq vs) → Below w.heap.size w w' → PutOut (pkt0 seq vs) w (.returned (.tuple #[.slice X 17 c, .int .i64 0])) w') := hid fun X c w' h1 h2 => ⟨X, c, by rw [pkt_len0], by rw [pkt_len0]; exact h1, h2⟩
  have HPK : Hid (pkt0 seq vs = hp0 seq vs ++ sumL (xtP name0 parts0 6) ((hp0 seq vs).drop 1)) := rfl
  have HHP : Hid (hp0 seq vs = [254, 9, seq, 1, 1, 0] ++ bd0 vs) := rfl
  have HSP := hid fun B cap w (h : Row .i64 w w.heap.size B 6 vs) => sc_Put0 B cap vs w h hk
  have HIN := hid (hp_in0 seq vs hs)
  have HLH := hid (hp_len0 seq vs)
  have HLB := hid (bd_len0 vs)
  have hs8 := hs
  unfold U8 at hs
  have us : seq % 256 = seq := by omega
  have e1 := Blk.new w 38 #[.int .i64 seq, .int .i64 1, .int .i64 1, .int .i64 0, .slice B 6 cap]
  have hb := (Below.refl w.heap.size w).alloc (Nat.le_refl _) (.cells #[.int .i64 seq, .int .i64 1, .int .i64 1, .int .i64 0, .slice B 6 cap] 38)
  have hv1 := (hv.alloc (Nat.le_refl _) (.cells #[.int .i64 seq, .int .i64 1, .int .i64 1, .int .i64 0, .slice B 6 cap] 38)).more (show _ ≤ (w.alloc (.cells #[.int .i64 seq, .int .i64 1, .int .i64 1, .int .i64 0, .slice B 6 cap] 38)).heap.size by simp)
  clear hv hk
  go_enter Tryz.func88, Tryz.ntmps88
  go_upto_region 1 with fail
  generalize w.alloc (.cells #[.int .i64 seq, .int .i64 1, .int .i64 1, .int .i64 0, .slice B 6 cap] 38) = W0 at *
  have q0 : W0.cell? ⟨w.heap.size, 0, none⟩ = some (.int .i64 seq) := e1.cell 0
  have q1 : W0.cell? ⟨w.heap.size, 1, none⟩ = some (.int .i64 1) := e1.cell 1
  have q2 : W0.cell? ⟨w.heap.size, 2, none⟩ = some (.int .i64 1) := e1.cell 2
  go_wp2_with fail
  clear q0 q1 q2
  have bo := Blk.new W0 3 #[.int .i64 seq, .int .i64 1, .int .i64 1]
  replace e1 := e1.alloc (.cells #[.int .i64 seq, .int .i64 1, .int .i64 1] 3)
  replace hv1 := (hv1.alloc (Nat.le_refl _) (.cells #[.int .i64 seq, .int .i64 1, .int .i64 1] 3)).more (show _ ≤ (W0.alloc (.cells #[.int .i64 seq, .int .i64 1, .int .i64 1] 3)).heap.size by simp)
  replace hb := hb.alloc hb.size (.cells #[.int .i64 seq, .int .i64 1, .int .i64 1] 3)
  generalize W0.alloc (.cells #[.int .i64 seq, .int .i64 1, .int .i64 1] 3) = W1 at *
  refine (t_octets W0.heap.size seq 1 1 _ W1 bo hs8 (by unfold U8; omega) (by unfold U8; omega)).mono ?_
  rintro e w1 ⟨rfl, rfl⟩
  clear bo
  have q3 : w1.cell? ⟨w.heap.size, 3, none⟩ = some (.int .i64 0) := e1.cell 3
  have q4 : w1.cell? ⟨w.heap.size, 4, none⟩ = some (.slice B 6 cap) := e1.cell 4
  go_wp2_with fail
  clear q3 q4
  refine (HSP.out B cap w1 hv1).mono ?_
  intro e w2 hp
  obtain ⟨X, d, rfl, o1, b1⟩ := hp.to 9 HLB.out
  clear hp hv1
  replace o1 := own_lower o1 hb.size
  replace e1 := e1.below b1 e1.lt
  replace hb := hb.trans (b1.mono hb.size)
  clear b1
  have HBD : Hid (putB fs0 (wireP ss0 vs) 6 = bd0 vs) := rfl
  rw [HBD.out] at o1
  generalize bd0 vs = bs at *
  have q0 : w2.cell? ⟨w.heap.size, 0, none⟩ = some (.int .i64 seq) := e1.cell 0
  have q1 : w2.cell? ⟨w.heap.size, 1, none⟩ = some (.int .i64 1) := e1.cell 1
  have q2 : w2.cell? ⟨w.heap.size, 2, none⟩ = some (.int .i64 1) := e1.cell 2
  go_wp2_with fail
  clear q0 q1 q2 e1
  have bh := (Blk.new w2 5 #[.int .u8 254, .int .u8 9, .int .u8 seq, .int .u8 1, .int .u8 1, .int .u8 0]).alloc (.cells #[.slice (some ⟨w2.heap.size, 0, none⟩) 6 6, .slice X 9 d] 28)
  have br := Blk.new (w2.alloc (.cells #[.int .u8 254, .int .u8 9, .int .u8 seq, .int .u8 1, .int .u8 1, .int .u8 0] 5)) 28 #[.slice (some ⟨w2.heap.size, 0, none⟩) 6 6, .slice X 9 d]
  simp only [World.size_alloc] at br
  have o2 := (o1.alloc (.cells #[.int .u8 254, .int .u8 9, .int .u8 seq, .int .u8 1, .int .u8 1, .int .u8 0] 5)).alloc (.cells #[.slice (some ⟨w2.heap.size, 0, none⟩) 6 6, .slice X 9 d] 28)
  replace hb := (hb.alloc hb.size (.cells #[.int .u8 254, .int .u8 9, .int .u8 seq, .int .u8 1, .int .u8 1, .int .u8 0] 5)).alloc (by have := hb.size; simp; omega) (.cells #[.slice (some ⟨w2.heap.size, 0, none⟩) 6 6, .slice X 9 d] 28)
  have hlt : w2.heap.size < ((w2.alloc (.cells #[.int .u8 254, .int .u8 9, .int .u8 seq, .int .u8 1, .int .u8 1, .int .u8 0] 5)).alloc (.cells #[.slice (some ⟨w2.heap.size, 0, none⟩) 6 6, .slice X 9 d] 28)).heap.size := by simp; omega
  clear o1
  generalize (w2.alloc (.cells #[.int .u8 254, .int .u8 9, .int .u8 seq, .int .u8 1, .int .u8 1, .int .u8 0] 5)).alloc (.cells #[.slice (some ⟨w2.heap.size, 0, none⟩) 6 6, .slice X 9 d] 28) = W2 at *
  refine (show Calls _ _ _ _ (Copied 15 _ _) from t_Concat (w2.heap.size + 1) 6 6 9 d _ (some ⟨w2.heap.size, 0, none⟩) X [254, 9, seq, 1, 1, 0] bs W2 br (Row.blk (xs := [254, 9, seq, 1, 1, 0]) bh rfl hlt) o2.row (by omega)).mono ?_
  rintro e w3 ⟨Y, cy, rfl, o3, b1⟩
  replace o3 := own_lower o3 hb.size
  replace hb := hb.trans (b1.mono hb.size)
  clear b1 o2 bh br hlt
  rw [← HHP.out] at o3
  have hcap := o3.cap_
  have hrow := o3.row.cut (j := 1) (by omega) hcap
  have rc : ∀ w, (Instr.slice 28 (.slice Y 15 cy) (some (.int .i64 1)) none none).run Tryz.prog w = .ok (.slice (cutA Y cy 1) 14 (cy - 1)) w := fun w => run_cut (P := Tryz.prog) 28 5 i0 Tryz.underlying28 hi hz1 Y 15 cy 1 (by omega) w
  have HSM := hid (t_sum0 (cutA Y cy 1) 14 (cy - 1) ((hp0 seq vs).drop 1) w3 hrow (by omega) (fun y hy => HIN.out y (List.mem_of_mem_drop hy)))
  clear hrow
  generalize hp0 seq vs = hp at *
  generalize sumL (xtP name0 parts0 6) (hp.drop 1) = sl at *
  generalize cutA Y cy 1 = Z at *
  go_wp2_with fail
  refine HSM.out.mono ?_
  rintro e w4 ⟨S4, c4, rfl, o4, b4⟩
  have o5 := o3.below b4 (Nat.le_refl _)
  replace hb := hb.trans (b4.mono hb.size)
  have hr4 := o4.row
  have hs4 := hb.size
  clear b4 o3 o4 HSM
  go_wp2_with (at_builtin; refine wpList_app rfl (.tmp 49) (.tmp 53) _ rfl w.heap.size 5 i0 0 1 Tryz.underlying28 hi hz hz1 hz2 Y 15 cy hp rfl o5 w4.heap.size S4 2 c4 sl rfl hr4 (by unfold maxLen; omega) (by omega) (by omega) ?_; intro A6 c6 w5 ho6 hg6; have hb6 := own_below hb o5 hg6 (by omega))
  rw [← HPK.out] at ho6
  have HF := hid (HO.out A6 c6 w5 ho6 hb6)
  clear ho6 o5 hr4
  go_wp2
  go_ret2
  exact HF.out
theorem hp_in200 (seq : Int) (vs : List Int) (hs : U8 seq) : ∀ x ∈ hp200 seq vs, U8 x := by
  intro x hx
  unfold hp200 at hx
  rcases List.mem_append.1 hx with h | h
  · unfold U8 at *
    simp at h
    omega
  · exact putB_in _ _ _ x h
set_option maxRecDepth 20000 in
set_option maxHeartbeats 8000000 in
theorem t_Put200 (seq : Int) (B : Option Addr) (cap : Nat) (vs : List Int) (w : World) (hs : U8 seq) (hv : Row .i64 w w.heap.size B 5 vs) (hk : ∀ j, j < 5 → VK (fs200[j]?.getD (0, false)).1 (fs200[j]?.getD (0, false)).2 ((wireP ss200 vs)[j]?.getD 0)) :
    Calls Tryz.prog 88 #[.agg #[.int .i64 seq, .int .i64 1, .int .i64 1, .int .i64 200, .slice B 5 cap]] w (PutOut (pkt200 seq vs) w) := by
  obtain ⟨i0, hi, hz, hz1, hz2⟩ := info_parts3 info_u8
  have HO : Hid (∀ X c w', Own .u8 w' w.heap.size 5 X 22 c (pkt200 seq vs) → Below w.heap.size w w' → PutOut (pkt200 seq vs) w (.returned (.tuple #[.slice X 22 c, .int .i64 0])) w') := hid fun X c w' h1 h2 => ⟨X, c, by rw [pkt_len200], by rw [pkt_len200]; exact h1, h2⟩
  have HPK : Hid (pkt200 seq vs = hp200 seq vs ++ sumL (xtP name200 parts200 5) ((hp200 seq vs).drop 1)) := rfl
  have HHP : Hid (hp200 seq vs = [254, 14, seq, 1, 1, 200] ++ bd200 vs) := rfl
  have HSP := hid fun B cap w (h : Row .i64 w w.heap.size B 5 vs) => sc_Put200 B cap vs w h hk
  have HIN := hid (hp_in200 seq vs hs)
  have HLH := hid (hp_len200 seq vs)
  have HLB := hid (bd_len200 vs)
  have hs8 := hs
  unfold U8 at hs
  have us : seq % 256 = seq := by omega
  have e1 := Blk.new w 38 #[.int .i64 seq, .int .i64 1, .int .i64 1, .int .i64 200, .slice B 5 cap]
  have hb := (Below.refl w.heap.size w).alloc (Nat.le_refl _) (.cells #[.int .i64 seq, .int .i64 1, .int .i64 1, .int .i64 200, .slice B 5 cap] 38)
  have hv1 := (hv.alloc (Nat.le_refl _) (.cells #[.int .i64 seq, .int .i64 1, .int .i64 1, .int .i64 200, .slice B 5 cap] 38)).more (show _ ≤ (w.alloc (.cells #[.int .i64 seq, .int .i64 1, .int .i64 1, .int .i64 200, .slice B 5 cap] 38)).heap.size by simp)
  clear hv hk
  go_enter Tryz.func88, Tryz.ntmps88
  go_upto_region 1 with fail
  generalize w.alloc (.cells #[.int .i64 seq, .int .i64 1, .int .i64 1, .int .i64 200, .slice B 5 cap] 38) = W0 at *
  have q0 : W0.cell? ⟨w.heap.size, 0, none⟩ = some (.int .i64 seq) := e1.cell 0
  have q1 : W0.cell? ⟨w.heap.size, 1, none⟩ = some (.int .i64 1) := e1.cell 1
  have q2 : W0.cell? ⟨w.heap.size, 2, none⟩ = some (.int .i64 1) := e1.cell 2
  go_wp2_with fail
  clear q0 q1 q2
  have bo := Blk.new W0 3 #[.int .i64 seq, .int .i64 1, .int .i64 1]
  replace e1 := e1.alloc (.cells #[.int .i64 seq, .int .i64 1, .int .i64 1] 3)
  replace hv1 := (hv1.alloc (Nat.le_refl _) (.cells #[.int .i64 seq, .int .i64 1, .int .i64 1] 3)).more (show _ ≤ (W0.alloc (.cells #[.int .i64 seq, .int .i64 1, .int .i64 1] 3)).heap.size by simp)
  replace hb := hb.alloc hb.size (.cells #[.int .i64 seq, .int .i64 1, .int .i64 1] 3)
  generalize W0.alloc (.cells #[.int .i64 seq, .int .i64 1, .int .i64 1] 3) = W1 at *
  refine (t_octets W0.heap.size seq 1 1 _ W1 bo hs8 (by unfold U8; omega) (by unfold U8; omega)).mono ?_
  rintro e w1 ⟨rfl, rfl⟩
  clear bo
  have q3 : w1.cell? ⟨w.heap.size, 3, none⟩ = some (.int .i64 200) := e1.cell 3
  have q4 : w1.cell? ⟨w.heap.size, 4, none⟩ = some (.slice B 5 cap) := e1.cell 4
  go_wp2_with fail
  clear q3 q4
  refine (HSP.out B cap w1 hv1).mono ?_
  intro e w2 hp
  obtain ⟨X, d, rfl, o1, b1⟩ := hp.to 14 HLB.out
  clear hp hv1
  replace o1 := own_lower o1 hb.size
  replace e1 := e1.below b1 e1.lt
  replace hb := hb.trans (b1.mono hb.size)
  clear b1
  have HBD : Hid (putB fs200 (wireP ss200 vs) 5 = bd200 vs) := rfl
  rw [HBD.out] at o1
  generalize bd200 vs = bs at *
  have q0 : w2.cell? ⟨w.heap.size, 0, none⟩ = some (.int .i64 seq) := e1.cell 0
  have q1 : w2.cell? ⟨w.heap.size, 1, none⟩ = some (.int .i64 1) := e1.cell 1
  have q2 : w2.cell? ⟨w.heap.size, 2, none⟩ = some (.int .i64 1) := e1.cell 2
  go_wp2_with fail
  clear q0 q1 q2 e1
  have bh := (Blk.new w2 5 #[.int .u8 254, .int .u8 14, .int .u8 seq, .int .u8 1, .int .u8 1, .int .u8 200]).alloc (.cells #[.slice (some ⟨w2.heap.size, 0, none⟩) 6 6, .slice X 14 d] 28)
  have br := Blk.new (w2.alloc (.cells #[.int .u8 254, .int .u8 14, .int .u8 seq, .int .u8 1, .int .u8 1, .int .u8 200] 5)) 28 #[.slice (some ⟨w2.heap.size, 0, none⟩) 6 6, .slice X 14 d]
  simp only [World.size_alloc] at br
  have o2 := (o1.alloc (.cells #[.int .u8 254, .int .u8 14, .int .u8 seq, .int .u8 1, .int .u8 1, .int .u8 200] 5)).alloc (.cells #[.slice (some ⟨w2.heap.size, 0, none⟩) 6 6, .slice X 14 d] 28)
  replace hb := (hb.alloc hb.size (.cells #[.int .u8 254, .int .u8 14, .int .u8 seq, .int .u8 1, .int .u8 1, .int .u8 200] 5)).alloc (by have := hb.size; simp; omega) (.cells #[.slice (some ⟨w2.heap.size, 0, none⟩) 6 6, .slice X 14 d] 28)
  have hlt : w2.heap.size < ((w2.alloc (.cells #[.int .u8 254, .int .u8 14, .int .u8 seq, .int .u8 1, .int .u8 1, .int .u8 200] 5)).alloc (.cells #[.slice (some ⟨w2.heap.size, 0, none⟩) 6 6, .slice X 14 d] 28)).heap.size := by simp; omega
  clear o1
  generalize (w2.alloc (.cells #[.int .u8 254, .int .u8 14, .int .u8 seq, .int .u8 1, .int .u8 1, .int .u8 200] 5)).alloc (.cells #[.slice (some ⟨w2.heap.size, 0, none⟩) 6 6, .slice X 14 d] 28) = W2 at *
  refine (show Calls _ _ _ _ (Copied 20 _ _) from t_Concat (w2.heap.size + 1) 6 6 14 d _ (some ⟨w2.heap.size, 0, none⟩) X [254, 14, seq, 1, 1, 200] bs W2 br (Row.blk (xs := [254, 14, seq, 1, 1, 200]) bh rfl hlt) o2.row (by omega)).mono ?_
  rintro e w3 ⟨Y, cy, rfl, o3, b1⟩
  replace o3 := own_lower o3 hb.size
  replace hb := hb.trans (b1.mono hb.size)
  clear b1 o2 bh br hlt
  rw [← HHP.out] at o3
  have hcap := o3.cap_
  have hrow := o3.row.cut (j := 1) (by omega) hcap
  have rc : ∀ w, (Instr.slice 28 (.slice Y 20 cy) (some (.int .i64 1)) none none).run Tryz.prog w = .ok (.slice (cutA Y cy 1) 19 (cy - 1)) w := fun w => run_cut (P := Tryz.prog) 28 5 i0 Tryz.underlying28 hi hz1 Y 20 cy 1 (by omega) w
  have HSM := hid (t_sum200 (cutA Y cy 1) 19 (cy - 1) ((hp200 seq vs).drop 1) w3 hrow (by omega) (fun y hy => HIN.out y (List.mem_of_mem_drop hy)))
  clear hrow
  generalize hp200 seq vs = hp at *
  generalize sumL (xtP name200 parts200 5) (hp.drop 1) = sl at *
  generalize cutA Y cy 1 = Z at *
  go_wp2_with fail
  refine HSM.out.mono ?_
  rintro e w4 ⟨S4, c4, rfl, o4, b4⟩
  have o5 := o3.below b4 (Nat.le_refl _)
  replace hb := hb.trans (b4.mono hb.size)
  have hr4 := o4.row
  have hs4 := hb.size
  clear b4 o3 o4 HSM
  go_wp2_with (at_builtin; refine wpList_app rfl (.tmp 49) (.tmp 53) _ rfl w.heap.size 5 i0 0 1 Tryz.underlying28 hi hz hz1 hz2 Y 20 cy hp rfl o5 w4.heap.size S4 2 c4 sl rfl hr4 (by unfold maxLen; omega) (by omega) (by omega) ?_; intro A6 c6 w5 ho6 hg6; have hb6 := own_below hb o5 hg6 (by omega))
  rw [← HPK.out] at ho6
  have HF := hid (HO.out A6 c6 w5 ho6 hb6)
  clear ho6 o5 hr4
  go_wp2
  go_ret2
  exact HF.out
end Go.Proofs.YtldoocndhfgjhaaGreat
