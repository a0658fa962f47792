/- Slices of slices of integers: 's[k:]'. -/
import Derived.Test.YtldoocndhfgjhaaGreatOwn
import Derived.Test.YtldoocndhfgjhaaGreatOctC
namespace Go.Proofs.YtldoocndhfgjhaaGreat
open Go.RowKit

/-- Where 's[k:]' begins. -/
def cutA (A : Option Addr) (cap k : Nat) : Option Addr := if cap = k then A else A.map (·.add k)
theorem run_cut {P : Program} (t e : TypeId) (i : TypeInfo) (ht : P.underlying t = some (.slice e)) (hi : P.info? e = some i) (hs : i.size = 1) (A : Option Addr) (n cap k : Nat) (hk : k ≤ n) (w : World) :
    (Instr.slice t (.slice A n cap) (some (.int .i64 (k : Int))) none none).run P w = .ok (.slice (cutA A cap k) (n - k) (cap - k)) w := by
  have h1 : (0 : Int) ≤ (k : Int) ∧ (k : Int) ≤ (n : Int) := by omega
  simp [Instr.slice, run_underlying ht, Instr.sliceBounds, Instr.sliceBound, asIntOf, hk, sizeOf, typeInfo, hi, hs, cutA]
theorem Row.cut {k : IntKind} {w : World} {B n cap j : Nat} {A : Option Addr} {xs : List Int} (h : Row k w B A n xs) (hj : j ≤ n) (hc : n ≤ cap) : Row k w B (cutA A cap j) (n - j) (xs.drop j) := by
  refine ⟨by simp [h.1], fun e => ?_, fun ad e i hi => ?_⟩
  · unfold cutA at e
    split at e
    · have := h.2.1 e; omega
    · cases A with
      | none => have := h.2.1 rfl; omega
      | some ad => cases e
  · unfold cutA at e
    rw [if_neg (by omega)] at e
    cases A with
    | none => cases e
    | some ad' =>
      cases e
      have := h.2.2 ad' rfl (j + i) (by omega)
      rw [add_block, add_twice]
      simpa using this
end Go.Proofs.YtldoocndhfgjhaaGreat
namespace Go.Proofs.YtldoocndhfgjhaaGreat
open Go.RowKit
set_option linter.unusedVariables false
set_option linter.unusedSimpArgs false

/-- A reader at g that holds the slice s. -/
def Rd (w : World) (g : Nat) (s : Value) : Prop := Blk w g 250 #[s, .bool true, .bool false]
theorem info_u8 : (Tryz.prog.info? 5).map (fun i => (i.zero, i.size, i.bytes)) = some (some (.int .u8 0), 1, 1) := by kernel_rfl
theorem o_New (ad : Addr) (n c : Nat) (xs : List Int) (w : World) (h : Row .u8 w w.heap.size (some ad) n xs) (hn : n ≤ 100000) :
    Calls Tryz.prog 74 #[.slice (some ad) n c] w fun e w' => ∃ g A' c', e = .returned (.pointer (some ⟨g, 0, none⟩)) ∧ Rd w' g (.slice A' n c') ∧ Row .u8 w' g A' n xs ∧ n ≤ c' ∧ w.heap.size ≤ g ∧ Below w.heap.size w w' := by
  have H := hid (o_Clone ad n c xs w h hn)
  clear h
  go_enter Tryz.func74, Tryz.ntmps74
  go_wp2_with fail
  refine H.out.mono ?_
  rintro e w1 ⟨A', c', rfl, o1, b1⟩
  have hr := o1.row
  have hc := o1.cap_
  have e0 := Blk.new w1 250 #[.slice A' n c', .bool true, .bool false]
  have hb := b1.alloc b1.size (.cells #[.slice A' n c', .bool true, .bool false] 250)
  have hr2 := hr.alloc (Nat.le_refl _) (.cells #[.slice A' n c', .bool true, .bool false] 250)
  have HR := hid hr2
  clear hr hr2 o1
  go_wp2
  go_ret
  exact ⟨w1.heap.size, A', c', rfl, e0, HR.out, hc, b1.size, hb⟩
theorem run_head {P : Program} (t e : TypeId) (i : TypeInfo) (ht : P.underlying t = some (.slice e)) (hi : P.info? e = some i) (hs : i.size = 1) (A : Option Addr) (n cap k : Nat) (hk : k ≤ n) (hc : n ≤ cap) (w : World) :
    (Instr.slice t (.slice A n cap) none (some (.int .i64 (k : Int))) (some (.int .i64 (k : Int)))).run P w = .ok (.slice A k k) w := by
  have h1 : (0 : Int) ≤ (k : Int) ∧ (k : Int) ≤ (cap : Int) := by omega
  have h2 : k ≤ cap := by omega
  cases A <;> simp [Instr.slice, run_underlying ht, Instr.sliceBounds, Instr.sliceBound, asIntOf, h2, sizeOf, typeInfo, hi, hs, Addr.add]
set_option maxHeartbeats 2000000 in
theorem o_next (g k n c : Nat) (A : Option Addr) (w : World) (h : Rd w g (.slice A n c)) (hk : k ≤ n) (hc : n ≤ c) (hn : n ≤ 100000) :
    Calls Tryz.prog 185 #[.pointer (some ⟨g, 0, none⟩), .int .i64 k] w fun e w' => e = .returned (.slice A k k) ∧ w' = w.setCell ⟨g, 0, none⟩ (.slice (cutA A c k) (n - k) (c - k)) := by
  have c0 : w.cell? ⟨g, 0, none⟩ = some (.slice A n c) := h.cell 0
  have z0 := h.frozen 0
  have H := hid (o_fine g _ _ w h)
  obtain ⟨i0, hi, hz, hz1, hz2⟩ := info_parts3 info_u8
  have r1 := fun w => run_head 28 5 i0 Tryz.underlying28 hi hz1 A n c k hk hc w
  have r2 := fun w => run_cut (P := Tryz.prog) 28 5 i0 Tryz.underlying28 hi hz1 A n c k hk w
  have k0 : decide ((k : Int) < 0) = false := decide_eq_false (by omega)
  have k1 : decide ((n : Int) < (k : Int)) = false := decide_eq_false (by omega)
  have k2 : decide (n < k) = false := decide_eq_false (by omega)
  have k3 : ¬ (n < k) := by omega
  generalize cutA A c k = B at *
  clear h
  go_enter Tryz.func185, Tryz.ntmps185
  go_wp2_with fail
  refine H.out.mono ?_
  rintro e w1 ⟨rfl, rfl⟩
  go_wp2
  go_ret
  exact ⟨rfl, rfl⟩
end Go.Proofs.YtldoocndhfgjhaaGreat
namespace Go.Proofs.YtldoocndhfgjhaaGreat
open Go.RowKit
set_option linter.unusedVariables false
set_option linter.unusedSimpArgs false

theorem or_up (i : Nat) (P : Int) (a b : Int) (hp : P = 2 ^ i) (ha : 0 ≤ a ∧ a < P) (hb : 0 ≤ b) (hs : b * P < 18446744073709551616) (ha2 : a < 18446744073709551616) : bits .or .u64 a (b * P) = a + b * P := by
  have hP : 0 < P := by rw [hp]; exact Int.pow_pos (by omega)
  have hbp : 0 ≤ b * P := Int.mul_nonneg hb (by omega)
  rw [u64_or a (b * P) ha.1 ha2 hbp hs]
  have e1 : (b * P).toNat = b.toNat * 2 ^ i := by
    rw [hp, Int.toNat_mul hb (by omega)]
    congr 1
  have e2 : a.toNat < 2 ^ i := by
    have : (a.toNat : Int) < ((2 ^ i : Nat) : Int) := by rw [Int.toNat_of_nonneg ha.1]; rw [hp] at ha; exact_mod_cast ha.2
    exact_mod_cast this
  rw [Nat.or_comm, nat_join i _ _ (by rw [e1]; exact Nat.mul_mod_left _ _) e2]
  omega
set_option maxHeartbeats 8000000 in
theorem o_RU1 (g m c : Nat) (x0 : Int) (xs : List Int) (A : Option Addr) (w : World) (h : Rd w g (.slice A m c)) (hr : Row .u8 w g A m (x0 :: xs)) (hc : m ≤ c) (hm : m ≤ 100000) (hx : U8 x0) :
    Calls Tryz.prog 148 #[.pointer (some ⟨g, 0, none⟩), .int .i64 1] w fun e w' => e = .returned (.int .u64 (x0)) ∧ w' = w.setCell ⟨g, 0, none⟩ (.slice (cutA A c 1) (m - 1) (c - 1)) := by
  have hl : 1 ≤ m := by have := hr.1; simp at this; omega
  have H := hid (o_next g 1 m c A w h hl hc hm)
  have hr2 := hr.setCell (p := ⟨g, 0, none⟩) (Nat.le_refl _) (.slice (cutA A c 1) (m - 1) (c - 1))
  obtain ⟨ad, rfl, _, c0⟩ := hr2.at_ (j := 0) (by omega)
  have e0 : ad.add 0 = ad := rfl
  rw [e0] at c0
  simp at c0
  obtain ⟨W, hW⟩ : ∃ W, w.setCell ⟨g, 0, none⟩ (.slice (cutA (some ad) c 1) (m - 1) (c - 1)) = W := ⟨_, rfl⟩
  rw [hW] at H c0 ⊢
  clear hr hr2 h hW
  have u0 := hx
  unfold U8 at *
  have w0 : IntKind.u64.wrap x0 = x0 := by rw [IntKind.wrap_u64]; omega
  have o0 : bits .or .u64 0 x0 = x0 := by have := or_up 0 1 0 x0 (by decide) (by omega) (by omega) (by omega) (by omega); simpa using this
  go_enter Tryz.func148, Tryz.ntmps148
  go_wp2_with fail
  refine H.out.mono ?_
  rintro e w1 ⟨rfl, rfl⟩
  go_wp2_with fail
  refine wp_loop_rounds 2 ?_
  rw [rounds_succ]
  go_wp2_with fail
  rw [rounds_succ]
  go_wp2_with fail
  go_ret
  exact ⟨rfl, rfl⟩
set_option maxHeartbeats 8000000 in
theorem o_RU4 (g m c : Nat) (x0 x1 x2 x3 : Int) (xs : List Int) (A : Option Addr) (w : World) (h : Rd w g (.slice A m c)) (hr : Row .u8 w g A m (x0 :: x1 :: x2 :: x3 :: xs)) (hc : m ≤ c) (hm : m ≤ 100000) (hx : U8 x0 ∧ U8 x1 ∧ U8 x2 ∧ U8 x3) :
    Calls Tryz.prog 148 #[.pointer (some ⟨g, 0, none⟩), .int .i64 4] w fun e w' => e = .returned (.int .u64 (x0 + 256 * x1 + 65536 * x2 + 16777216 * x3)) ∧ w' = w.setCell ⟨g, 0, none⟩ (.slice (cutA A c 4) (m - 4) (c - 4)) := by
  have hl : 4 ≤ m := by have := hr.1; simp at this; omega
  have H := hid (o_next g 4 m c A w h hl hc hm)
  have hr2 := hr.setCell (p := ⟨g, 0, none⟩) (Nat.le_refl _) (.slice (cutA A c 4) (m - 4) (c - 4))
  obtain ⟨ad, rfl, _, c0⟩ := hr2.at_ (j := 0) (by omega)
  have c1 := (hr2.2.2 ad rfl 1 (by omega)).2
  have c2 := (hr2.2.2 ad rfl 2 (by omega)).2
  have c3 := (hr2.2.2 ad rfl 3 (by omega)).2
  rw [add_succ] at c1 c2 c3
  have e0 : ad.add 0 = ad := rfl
  rw [e0] at c0
  simp at c0 c1 c2 c3
  obtain ⟨W, hW⟩ : ∃ W, w.setCell ⟨g, 0, none⟩ (.slice (cutA (some ad) c 4) (m - 4) (c - 4)) = W := ⟨_, rfl⟩
  rw [hW] at H c0 c1 c2 c3 ⊢
  clear hr hr2 h hW
  obtain ⟨u0, u1, u2, u3⟩ := hx
  unfold U8 at *
  have w0 : IntKind.u64.wrap x0 = x0 := by rw [IntKind.wrap_u64]; omega
  have w1 : IntKind.u64.wrap x1 = x1 := by rw [IntKind.wrap_u64]; omega
  have w2 : IntKind.u64.wrap x2 = x2 := by rw [IntKind.wrap_u64]; omega
  have w3 : IntKind.u64.wrap x3 = x3 := by rw [IntKind.wrap_u64]; omega
  have v1 : IntKind.u64.wrap (x1 * 256) = x1 * 256 := by rw [IntKind.wrap_u64]; omega
  have v2 : IntKind.u64.wrap (x2 * 65536) = x2 * 65536 := by rw [IntKind.wrap_u64]; omega
  have v3 : IntKind.u64.wrap (x3 * 16777216) = x3 * 16777216 := by rw [IntKind.wrap_u64]; omega
  have o0 : bits .or .u64 0 x0 = x0 := by have := or_up 0 1 0 x0 (by decide) (by omega) (by omega) (by omega) (by omega); simpa using this
  obtain ⟨y1, hy1⟩ : ∃ y, x0 + x1 * 256 = y := ⟨_, rfl⟩
  have o1 : bits .or .u64 x0 (x1 * 256) = y1 := by rw [← hy1]; exact or_up 8 256 x0 x1 (by decide) (by omega) (by omega) (by omega) (by omega)
  obtain ⟨y2, hy2⟩ : ∃ y, y1 + x2 * 65536 = y := ⟨_, rfl⟩
  have o2 : bits .or .u64 y1 (x2 * 65536) = y2 := by rw [← hy2]; exact or_up 16 65536 y1 x2 (by decide) (by omega) (by omega) (by omega) (by omega)
  obtain ⟨y3, hy3⟩ : ∃ y, y2 + x3 * 16777216 = y := ⟨_, rfl⟩
  have o3 : bits .or .u64 y2 (x3 * 16777216) = y3 := by rw [← hy3]; exact or_up 24 16777216 y2 x3 (by decide) (by omega) (by omega) (by omega) (by omega)
  have HV : Hid (y3 = x0 + 256 * x1 + 65536 * x2 + 16777216 * x3) := hid (by omega)
  clear hy1 hy2 hy3 u0 u1 u2 u3
  go_enter Tryz.func148, Tryz.ntmps148
  go_wp2_with fail
  refine H.out.mono ?_
  rintro e w1 ⟨rfl, rfl⟩
  go_wp2_with fail
  refine wp_loop_rounds 5 ?_
  rw [rounds_succ]
  go_wp2_with fail
  rw [rounds_succ]
  go_wp2_with fail
  rw [rounds_succ]
  go_wp2_with fail
  rw [rounds_succ]
  go_wp2_with fail
  rw [rounds_succ]
  go_wp2_with fail
  go_ret
  exact ⟨by rw [← HV.out] <;> rfl, rfl⟩
set_option maxHeartbeats 8000000 in
theorem o_RU2z (g m c : Nat) (xs : List Int) (A : Option Addr) (w : World) (h : Rd w g (.slice A m c)) (hr : Row .u8 w g A m (0 :: 0 :: xs)) (hc : m ≤ c) (hm : m ≤ 100000) :
    Calls Tryz.prog 148 #[.pointer (some ⟨g, 0, none⟩), .int .i64 2] w fun e w' => e = .returned (.int .u64 (0)) ∧ w' = w.setCell ⟨g, 0, none⟩ (.slice (cutA A c 2) (m - 2) (c - 2)) := by
  have hl : 2 ≤ m := by have := hr.1; simp at this; omega
  have H := hid (o_next g 2 m c A w h hl hc hm)
  have hr2 := hr.setCell (p := ⟨g, 0, none⟩) (Nat.le_refl _) (.slice (cutA A c 2) (m - 2) (c - 2))
  obtain ⟨ad, rfl, _, c0⟩ := hr2.at_ (j := 0) (by omega)
  have c1 := (hr2.2.2 ad rfl 1 (by omega)).2
  rw [add_succ] at c1
  have e0 : ad.add 0 = ad := rfl
  rw [e0] at c0
  simp at c0 c1
  obtain ⟨W, hW⟩ : ∃ W, w.setCell ⟨g, 0, none⟩ (.slice (cutA (some ad) c 2) (m - 2) (c - 2)) = W := ⟨_, rfl⟩
  rw [hW] at H c0 c1 ⊢
  clear hr hr2 h hW
  go_enter Tryz.func148, Tryz.ntmps148
  go_wp2_with fail
  refine H.out.mono ?_
  rintro e w1 ⟨rfl, rfl⟩
  go_wp2_with fail
  refine wp_loop_rounds 3 ?_
  rw [rounds_succ]
  go_wp2_with fail
  rw [rounds_succ]
  go_wp2_with fail
  rw [rounds_succ]
  go_wp2_with fail
  go_ret
  exact ⟨rfl, rfl⟩
theorem o_RI2 (g m c : Nat) (xs : List Int) (A : Option Addr) (w : World) (h : Rd w g (.slice A m c)) (hr : Row .u8 w g A m (0 :: 0 :: xs)) (hc : m ≤ c) (hm : m ≤ 100000) :
    Calls Tryz.prog 113 #[.pointer (some ⟨g, 0, none⟩), .int .i64 2] w fun e w' => e = .returned (.int .i64 0) ∧ w' = w.setCell ⟨g, 0, none⟩ (.slice (cutA A c 2) (m - 2) (c - 2)) := by
  have H := hid (o_RU2z g m c xs A w h hr hc hm)
  clear h hr
  go_enter Tryz.func113, Tryz.ntmps113
  go_wp2_with fail
  refine H.out.mono ?_
  rintro e w1 ⟨rfl, rfl⟩
  go_wp2
  go_ret
  exact ⟨rfl, rfl⟩
end Go.Proofs.YtldoocndhfgjhaaGreat
