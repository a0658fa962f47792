/- Chapter 32: what a packet's bytes are made with. -/
import Derived.Test.YtldoocndhfgjhaaGreatSchJ
import Derived.Test.YtldoocndhfgjhaaGreatSchI
import Derived.Lib.AppendZerosOnto
namespace Go.Proofs.YtldoocndhfgjhaaGreat
open Go.RowKit
set_option linter.unusedVariables false
set_option linter.unusedSimpArgs false

section
variable {P : Program}
theorem run_head2 (t e : TypeId) (i : TypeInfo) (ht : P.underlying t = some (.slice e)) (hi : P.info? e = some i) (hs : i.size = 1) (A : Option Addr) (n cap k : Nat) (hk : k ≤ cap) (w : World) :
    (Instr.slice t (.slice A n cap) none (some (.int .i64 (k : Int))) none).run P w = .ok (.slice A k cap) w := by
  have h1 : (0 : Int) ≤ (k : Int) ∧ (k : Int) ≤ (cap : Int) := by omega
  cases A <;> simp [Instr.slice, run_underlying ht, Instr.sliceBounds, Instr.sliceBound, asIntOf, hk, sizeOf, typeInfo, hi, hs, Addr.add]
theorem wpList_growZ {k : IntKind} {ops : Array Oper} {rest : List Oper} {o : Oper} {a : Act} {w : World} {Q : Exit → Act → World → Prop} (hgd : o.guard = none) (s x : Operand) (t tn : TypeId)
    (ho : o.op = .call { callee := .builtin .append, args := #[s, x], argTypes := #[t, tn] }) (e : TypeId) (i : TypeInfo) (bytes : Nat) (kn : IntKind) (ht : P.underlying t = some (.slice e)) (htn : P.underlying tn = some (.int kn)) (hi : P.info? e = some i) (hz : i.zero = some (.int k 0)) (h4 : i.size = 1) (h5 : i.bytes = bytes)
    (n : Nat) (hs : a.eval s = .slice none 0 0) (hx : a.eval x = .int .i64 (n : Int)) (hn0 : 0 < n) (hn : n ≤ 1000000) (hb : bytes ≤ 1000)
    (h : ∀ g c w', (∀ base, base ≤ w.heap.size → Own k w' base e (some ⟨g, 0, none⟩) 0 c []) → n ≤ c → Below w.heap.size w w' → wpList P ops Q rest (a.put o.dst (.slice (some ⟨g, 0, none⟩) n c)) w') : wpList P ops Q (o :: rest) a w := by
  subst h5
  have hm : n * i.bytes ≤ 1000000 * 1000 := Nat.mul_le_mul hn hb
  have hrun := Lib.run_append_grow_zeros (P := P) w t tn o.type e i (.int k 0) .i64 kn ht htn hi hz none 0 0 [] (by simp [Builtin.firstCells, h4]) n hn0 (by omega) (by omega) (by omega) (by omega)
    (by
      have h1 : Builtin.nextslicecap (0 + n) 0 ≤ 2 * (0 + n) := nextslicecap_le (by omega)
      have h2 : Builtin.nextslicecap (0 + n) 0 * i.bytes ≤ 2000000 * 1000 := Nat.mul_le_mul (by omega) hb
      omega)
  refine wpList_plain hgd fun K hK => ?_
  rw [Nat.zero_add] at hrun
  unfold Oper.wp execOp
  simp only [ho, resolve, invoke, builtin, Sem.run_bind, Sem.run_pure, Result.andThen_ok, List.map_toArray, List.map_cons, List.map_nil, hs, hx, hrun]
  have hge := grownCap_ge w n 0 e
  have hmx := grownCap_le_maxLen w n 0 e (by unfold maxLen; omega)
  refine hK _ _ (h _ _ _ (fun base hbase => ⟨rfl, .inr ⟨w.heap.size, _, _, rfl, hbase, heap_alloc_new w.drew _, Nat.zero_le _, hmx, ?_, ?_⟩⟩) hge (((Below.refl w.heap.size w).drew).alloc (Nat.le_refl _) _))
  · simp [size_zeroCells, Value.cells]
    omega
  · simp
end
theorem t_Grow (n : Nat) (w : World) (hn0 : 0 < n) (hn : n ≤ 1000) :
    Calls Tryz.prog 177 #[.slice none 0 0, .int .i64 n] w fun e w' => ∃ g c, e = .returned (.slice (some ⟨g, 0, none⟩) 0 c) ∧ Own .u8 w' w.heap.size 5 (some ⟨g, 0, none⟩) 0 c [] ∧ Below w.heap.size w w' := by
  obtain ⟨i0, hi, hz, hz1, hz2⟩ := info_parts3 info_u8
  have r1 := fun w => run_head2 (P := Tryz.prog) 28 5 i0 Tryz.underlying28 hi hz1 none 0 0 0 (Nat.le_refl _) w
  have r2 := fun g c w => run_head2 (P := Tryz.prog) 28 5 i0 Tryz.underlying28 hi hz1 (some ⟨g, 0, none⟩) n c 0 (Nat.zero_le _) w
  have k0 : ¬ ((n : Int) < 0) := by omega
  have k1 : decide ((0 : Int) < (n : Int)) = true := decide_eq_true (by omega)
  have k2 : decide (0 < n) = true := decide_eq_true hn0
  go_enter Tryz.func177, Tryz.ntmps177
  go_wp2_with (at_builtin; refine wpList_growZ rfl (.tmp 20) (.tmp 21) _ _ rfl 5 i0 1 .i64 Tryz.underlying28 Tryz.underlying3 hi hz hz1 hz2 n rfl rfl hn0 (by omega) (by omega) ?_; intro g c w1 ho hc hb)
  have HO := hid (ho w.heap.size (Nat.le_refl _))
  clear ho
  go_wp2
  go_ret
  exact ⟨g, c, rfl, HO.out, hb⟩
end Go.Proofs.YtldoocndhfgjhaaGreat
namespace Go.Proofs.YtldoocndhfgjhaaGreat
open Go.RowKit
set_option linter.unusedVariables false
set_option linter.unusedSimpArgs false

set_option maxHeartbeats 4000000 in
theorem t_Concat (g n1 c1 n2 c2 : Nat) (t : TypeId) (A1 A2 : Option Addr) (xs ys : List Int) (w : World) (hb0 : Blk w g t #[.slice A1 n1 c1, .slice A2 n2 c2]) (hx : Row .u8 w w.heap.size A1 n1 xs) (hy : Row .u8 w w.heap.size A2 n2 ys) (hn : 0 < n1 + n2 ∧ n1 + n2 ≤ 1000) :
    Calls Tryz.prog 132 #[.slice (some ⟨g, 0, none⟩) 2 2] w (Copied (n1 + n2) (xs ++ ys) w) := by
  obtain ⟨i0, hi, hz, hz1, hz2⟩ := info_parts3 info_u8
  have HC : Hid (∀ A' c' w', Own .u8 w' w.heap.size 5 A' (n1 + n2) c' (xs ++ ys) → Below w.heap.size w w' → Copied (n1 + n2) (xs ++ ys) w (.returned (.slice A' (n1 + n2) c')) w') := hid fun A' c' w' h1 h2 => ⟨A', c', rfl, h1, h2⟩
  have H0 := t_Grow (n1 + n2) w hn.1 hn.2
  rw [Int.natCast_add] at H0
  have H := hid H0
  have q0 : w.cell? ⟨g, 0, none⟩ = some (.slice A1 n1 c1) := hb0.cell 0
  have q1 : w.cell? ⟨g, 1, none⟩ = some (.slice A2 n2 c2) := hb0.cell 1
  have u1 : IntKind.i64.wrap (n1 : Int) = n1 := IntWalk.i64_in _ (by omega)
  have u2 : IntKind.i64.wrap ((n1 : Int) + n2) = (n1 : Int) + n2 := IntWalk.i64_in _ (by omega)
  have k1 : decide ((n1 : Int) < 0) = false := decide_eq_false (by omega)
  have k2 : decide ((n1 : Int) + n2 < 0) = false := decide_eq_false (by omega)
  clear H0
  go_enter Tryz.func132, Tryz.ntmps132
  go_wp2
  refine wp_loop_rounds 3 ?_
  rw [rounds_succ]
  go_wp2_with fail
  rw [rounds_succ]
  go_wp2_with fail
  rw [rounds_succ]
  go_wp2_with fail
  clear q0 q1
  refine H.out.mono ?_
  rintro e w1 ⟨gg, c, rfl, ho, hb⟩
  have hb1 := hb0.below hb hb0.lt
  have q0 : w1.cell? ⟨g, 0, none⟩ = some (.slice A1 n1 c1) := hb1.cell 0
  have hx1 := hx.below hb
  have hs1 := hb.size
  go_wp2_with fail
  refine wp_loop_rounds 3 ?_
  rw [rounds_succ]
  go_wp2_with (at_builtin; refine wpList_app rfl (.tmp 31) (.tmp 32) _ rfl w.heap.size 5 i0 0 1 Tryz.underlying28 hi hz hz1 hz2 (some ⟨gg, 0, none⟩) 0 c [] rfl ho w.heap.size A1 n1 c1 xs rfl hx1 (by unfold maxLen; omega) (by omega) (by omega) ?_; intro A3 c3 w2 ho2 hg2; simp only [Nat.zero_add, List.nil_append] at ho2; have hb2 := own_below hb ho hg2 (by omega))
  clear q0
  have hb3 := hb0.below hb2 hb0.lt
  have q1 : w2.cell? ⟨g, 1, none⟩ = some (.slice A2 n2 c2) := hb3.cell 1
  have hy1 := hy.below hb2
  have hs2 := hb2.size
  rw [rounds_succ]
  go_wp2_with (at_builtin; refine wpList_app rfl (.tmp 31) (.tmp 32) _ rfl w.heap.size 5 i0 0 1 Tryz.underlying28 hi hz hz1 hz2 A3 n1 c3 xs rfl ho2 w.heap.size A2 n2 c2 ys rfl hy1 (by unfold maxLen; omega) (by omega) (by omega) ?_; intro A4 c4 w3 ho3 hg3; have hb4 := own_below hb2 ho2 hg3 (by omega))
  clear q1
  rw [rounds_succ]
  have HF := hid (HC.out A4 c4 w3 ho3 hb4)
  clear ho3 ho2 ho hx hy hx1 hy1
  generalize n1 + n2 = N at *
  go_wp2
  go_ret
  exact HF.out
set_option maxHeartbeats 4000000 in
theorem t_Equal (n c1 c2 : Nat) (A1 A2 : Option Addr) (xs : List Int) (w : World) (hx : Row .u8 w w.heap.size A1 n xs) (hy : Row .u8 w w.heap.size A2 n xs) (hn : n ≤ 1000) :
    Calls Tryz.prog 22 #[.slice A1 n c1, .slice A2 n c2] w fun e w' => e = .returned (.bool true) ∧ Below w.heap.size w w' := by
  have HX := hid hx
  have HY := hid hy
  clear hx hy
  go_enter Tryz.func22, Tryz.ntmps22
  go_wp2
  go_loopw [13] (fun i wr => ∃ j : Nat, j ≤ n ∧ i = .int .i64 j ∧ Below w.heap.size w wr) (fun i _ => n - (intOf i).toNat)
  case atStart => exact ⟨0, Nat.zero_le _, rfl, Below.refl _ _⟩
  case round =>
    obtain ⟨j, hj, rfl, hb⟩ := hrel
    by_cases hlt : j < n
    · obtain ⟨a1, rfl, _⟩ := (HX.out.below hb).at_ hlt
      obtain ⟨a2, rfl, _⟩ := (HY.out.below hb).at_ hlt
      have hc1 : ∀ W, Below w.heap.size w W → W.cell? (a1.add j) = some (.int .u8 (xs[j]?.getD 0)) := fun W h => ((HX.out.below h).2.2 a1 rfl j hlt).2
      have hc2 : ∀ W, Below w.heap.size w W → W.cell? (a2.add j) = some (.int .u8 (xs[j]?.getD 0)) := fun W h => ((HY.out.below h).2.2 a2 rfl j hlt).2
      generalize xs[j]?.getD 0 = x at *
      have m1 : n - (j + 1) < n - j := by omega
      have j0 : (0 : Int) ≤ (j : Int) := by omega
      have j1 : (j : Int) < (n : Int) := by omega
      go_upto_region 6 with fail
      refine wp_region_noPanic ?_
      refine wp_region_held_drew (S := (fun w' : World => w'.cell? (a1.add j) = some (.int .u8 x) ∧ w'.cell? (a2.add j) = some (.int .u8 x))) (by kernel_rfl) ⟨hc1 _ hb.drew, hc2 _ hb.drew⟩ (fun hHeld => ?_)
      refine (show wpAnyH _ _ _ _ _ 9 _ _ _ from ?_)
      try (simp only [Act.put, List.setIfInBounds_toArray, List.set_cons_zero, List.set_cons_succ])
      replace hb := hb.drew
      generalize wr.drew = V0 at *
      refine tk 0 hHeld ?_
      refine tk 1 hHeld ?_
      refine tk 2 hHeld ?_
      refine tk 3 hHeld ?_
      refine tk 4 hHeld ?_
      refine tk 5 hHeld ?_
      refine tk 6 hHeld ?_
      refine tk 7 hHeld ?_
      refine tk 8 hHeld ?_
      refine wpAnyH_done (by kernel_rfl) ?_ _
      refine NoPanic.normal ?_
      clear hHeld hc1 hc2
      go_wp2_with fail
      go_roundw
      case rel => exact ⟨j + 1, by omega, by go_num, hb⟩
      case measure => simpa [intOf] using m1
    · obtain rfl : j = n := by omega
      go_wp2
      go_ret
      exact ⟨rfl, hb⟩
/-- The sum behind a packet's bytes. -/
def sumP (x : Int) (xs : List Int) : Int := bitsP 8 (bits .xor .u16 (ofP xs) x)
theorem sum_in (x : Int) (xs : List Int) (hx : U8 x) (h : ∀ y ∈ xs, U8 y) : U16 (sumP x xs) := bits_in 8 _ (u16_xor_in _ _ (crc_in _ h _ (by unfold U16; omega)) (by unfold U8 U16 at *; omega))
def sumL (x : Int) (xs : List Int) : List Int := [sumP x xs % 256, sumP x xs / 256]
theorem own_two {k : IntKind} {w : World} {base g : Nat} {e : TypeId} {x y : Int} (h : Blk w g e #[.int k x, .int k y]) (hb : base ≤ g) : Own k w base e (some ⟨g, 0, none⟩) 2 2 [x, y] :=
  ⟨rfl, .inr ⟨g, 2, #[.int k x, .int k y], rfl, hb, h, Nat.le_refl _, by unfold maxLen; omega, rfl, rfl⟩⟩
theorem t_sum0 (A : Option Addr) (n c : Nat) (xs : List Int) (w : World) (hr : Row .u8 w w.heap.size A n xs) (hn : n ≤ 1000) (hx : ∀ y ∈ xs, U8 y) :
    Calls Tryz.prog 23 #[.int .i64 0, .slice A n c] w (Copied 2 (sumL (xtP name0 parts0 6) xs) w) := by
  have hin := sum_in _ xs (xt_in name0 parts0 6) hx
  have hq := crc_in _ hx 65535 (by unfold U16; omega)
  have hxt := xt_in name0 parts0 6
  have HE := hid fun w => s_Extra0 w
  have HSt := hid fun w => c_Step _ _ w hq hxt
  have HS : Hid (bitsP 8 (bits .xor .u16 (crcP 65535 xs) (xtP name0 parts0 6)) = sumP (xtP name0 parts0 6) xs) := rfl
  have HC : Hid (∀ A' c' w', Own .u8 w' w.heap.size 5 A' 2 c' [sumP (xtP name0 parts0 6) xs % 256, sumP (xtP name0 parts0 6) xs / 256] → Below w.heap.size w w' → Copied 2 (sumL (xtP name0 parts0 6) xs) w (.returned (.slice A' 2 c')) w') := hid fun A' c' w' h1 h2 => ⟨A', c', rfl, h1, h2⟩
  have b0 := Blk.new w 28 #[.slice A n c]
  have hb := (Below.refl w.heap.size w).alloc (Nat.le_refl _) (.cells #[.slice A n c] 28)
  have hr2 := (hr.alloc (Nat.le_refl _) (.cells #[.slice A n c] 28)).more (show _ ≤ (w.alloc (.cells #[.slice A n c] 28)).heap.size by simp)
  have HO := hid (c_Of ⟨w.heap.size, 0, none⟩ A n c xs _ (b0.cell 0) hr2 (by omega) hx)
  clear hr hr2 hx hxt hq b0
  generalize xtP name0 parts0 6 = xt at *
  generalize sumP xt xs = sm at *
  unfold ofP at HO
  generalize crcP 65535 xs = cc at *
  go_enter Tryz.func23, Tryz.ntmps23
  go_wp2_with fail
  generalize w.alloc (.cells #[.slice A n c] 28) = W0 at *
  refine HO.out.mono ?_
  rintro e w1 ⟨rfl, b1⟩
  replace hb := hb.trans (b1.mono hb.size)
  clear b1
  go_wp2_with fail
  refine (HE.out _).mono ?_
  rintro e w2 ⟨rfl, b1⟩
  replace hb := hb.trans (b1.mono hb.size)
  clear b1
  go_wp2_with fail
  refine (HSt.out _).mono ?_
  rintro e w3 ⟨rfl, rfl⟩
  rw [HS.out]
  unfold U16 at hin
  have bN := Blk.new w3 5 #[.int .u8 (sm % 256), .int .u8 (sm / 256)]
  have HF := hid (HC.out _ _ _ (own_two bN hb.size) (hb.alloc hb.size _))
  clear bN
  go_wp2
  go_ret
  exact HF.out
theorem t_sum200 (A : Option Addr) (n c : Nat) (xs : List Int) (w : World) (hr : Row .u8 w w.heap.size A n xs) (hn : n ≤ 1000) (hx : ∀ y ∈ xs, U8 y) :
    Calls Tryz.prog 23 #[.int .i64 200, .slice A n c] w (Copied 2 (sumL (xtP name200 parts200 5) xs) w) := by
  have hin := sum_in _ xs (xt_in name200 parts200 5) hx
  have hq := crc_in _ hx 65535 (by unfold U16; omega)
  have hxt := xt_in name200 parts200 5
  have HE := hid fun w => s_Extra200 w
  have HSt := hid fun w => c_Step _ _ w hq hxt
  have HS : Hid (bitsP 8 (bits .xor .u16 (crcP 65535 xs) (xtP name200 parts200 5)) = sumP (xtP name200 parts200 5) xs) := rfl
  have HC : Hid (∀ A' c' w', Own .u8 w' w.heap.size 5 A' 2 c' [sumP (xtP name200 parts200 5) xs % 256, sumP (xtP name200 parts200 5) xs / 256] → Below w.heap.size w w' → Copied 2 (sumL (xtP name200 parts200 5) xs) w (.returned (.slice A' 2 c')) w') := hid fun A' c' w' h1 h2 => ⟨A', c', rfl, h1, h2⟩
  have b0 := Blk.new w 28 #[.slice A n c]
  have hb := (Below.refl w.heap.size w).alloc (Nat.le_refl _) (.cells #[.slice A n c] 28)
  have hr2 := (hr.alloc (Nat.le_refl _) (.cells #[.slice A n c] 28)).more (show _ ≤ (w.alloc (.cells #[.slice A n c] 28)).heap.size by simp)
  have HO := hid (c_Of ⟨w.heap.size, 0, none⟩ A n c xs _ (b0.cell 0) hr2 (by omega) hx)
  clear hr hr2 hx hxt hq b0
  generalize xtP name200 parts200 5 = xt at *
  generalize sumP xt xs = sm at *
  unfold ofP at HO
  generalize crcP 65535 xs = cc at *
  go_enter Tryz.func23, Tryz.ntmps23
  go_wp2_with fail
  generalize w.alloc (.cells #[.slice A n c] 28) = W0 at *
  refine HO.out.mono ?_
  rintro e w1 ⟨rfl, b1⟩
  replace hb := hb.trans (b1.mono hb.size)
  clear b1
  go_wp2_with fail
  refine (HE.out _).mono ?_
  rintro e w2 ⟨rfl, b1⟩
  replace hb := hb.trans (b1.mono hb.size)
  clear b1
  go_wp2_with fail
  refine (HSt.out _).mono ?_
  rintro e w3 ⟨rfl, rfl⟩
  rw [HS.out]
  unfold U16 at hin
  have bN := Blk.new w3 5 #[.int .u8 (sm % 256), .int .u8 (sm / 256)]
  have HF := hid (HC.out _ _ _ (own_two bN hb.size) (hb.alloc hb.size _))
  clear bN
  go_wp2
  go_ret
  exact HF.out
end Go.Proofs.YtldoocndhfgjhaaGreat
