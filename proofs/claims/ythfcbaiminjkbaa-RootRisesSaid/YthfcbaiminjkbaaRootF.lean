/- Chapter 02: the walk of RootRises. -/
import Derived.Test.YthfcbaiminjkbaaRootE
namespace Go.Proofs.Ythfcbaiminjkbaa
open Go.RowKit

theorem wpList_app_g {P : Program} {k : IntKind} {ops : Array Oper} {rest : List Oper} {o : Oper} {a : Act} {w : World} {Q : Exit → Act → World → Prop} (hgd : Region.wanted o (yielded ops a.tmps) = true) (s x : Operand) (t : TypeId)
    (ho : o.op = .call { callee := .builtin .append, args := #[s, x], argTypes := #[t, t] })
    (base : Nat) (e : TypeId) (i : TypeInfo) (z : Int) (bytes : Nat) (ht : P.underlying t = some (.slice e)) (hi : P.info? e = some i) (hz : i.zero = some (.int k z))
    (hsize : i.size = 1) (hby : i.bytes = bytes) (A : Option Addr) (n c : Nat) (ys : List Int) (hs : a.eval s = .slice A n c) (hown : Own k w base e A n c ys)
    (B : Nat) (X : Option Addr) (m d : Nat) (xs : List Int) (hx : a.eval x = .slice X m d) (hr : Row k w B X m xs)
    (h63 : n + m ≤ maxLen) (hbytes : (n + m) * bytes ≤ 140737488355328) (hbase : base ≤ w.heap.size)
    (h : ∀ A' c' w', Own k w' base e A' (n + m) c' (ys ++ xs) → w.grownBy w' (Value.slice A n c).ownBlock → wpList P ops Q rest (a.put o.dst (.slice A' (n + m) c')) w') : wpList P ops Q (o :: rest) a w :=
  wpList_step fun _ hK => by
    rw [if_pos hgd]
    exact wp_app s x t ho base e i z bytes ht hi hz hsize hby A n c ys hs hown B X m d xs hx hr h63 hbytes hbase fun A' c' w' h2 h3 => hK _ _ (h A' c' w' h2 h3)

theorem info32r : (Try.prog.info? 21).map (fun i => (i.zero, i.size, i.bytes)) = some (some (.int .i32 0), 1, 4) := by kernel_rfl

theorem rises (xs : List Int) (x : Int) : rootP (sqP xs) ≤ rootP (sqP (xs ++ [x])) := by
  refine root_mono (sqP_bd xs).1 ?_
  have h := sqs_app xs [x]
  have h2 := sqs_nonneg [x]
  unfold sqP
  omega

set_option maxHeartbeats 4000000 in
theorem rootRises_walk (a0 a1 : Int) (A : Option Addr) (n c : Nat) (xs : List Int) (a3 : Int) (w : World) (w0 : (Lit.int .u64 a0).wf = true) (w1 : (Lit.int .u64 a1).wf = true) (h : In .i32 w A n c xs) (w3 : (Lit.int .i32 a3).wf = true) :
    Calls Try.prog 9 #[.int .u64 a0, .int .u64 a1, .slice A n c, .int .i32 a3] w fun e w' => e = .returned (.bool true) ∧ Below w.heap.size w w' := by
  obtain ⟨hr, hm, hc, hw⟩ := h
  obtain ⟨n1, n2⟩ := bounds_u64 w0
  obtain ⟨m1, m2⟩ := bounds_u64 w1
  have hx3 := bounds_i32 w3
  have hx : ∀ x ∈ xs, -2147483648 ≤ x ∧ x ≤ 2147483647 := fun x hx => bounds_i32 (hw x hx)
  have hx' : ∀ x ∈ xs ++ [a3], -2147483648 ≤ x ∧ x ≤ 2147483647 := by
    intro x hm
    simp only [List.mem_append, List.mem_singleton] at hm
    rcases hm with h | h
    · exact hx x h
    · subst h; exact hx3
  have HK := hid fun w => law02_knows w
  clear w0 w1 w3 hw
  by_cases g : 100 < n
  · go_enter Try.func9, Try.ntmps9
    go_wp2_with fail
    refine (HK.out _).mono ?_
    rintro e w1 ⟨rfl, b1⟩
    go_wp2
    go_ret
    exact ⟨rfl, b1⟩
  have d1 : decide ((100 : Int) < n) = false := by simp; omega
  have H1 := hid fun w => root_Sqrt (min a0 a1) w (by omega) (by omega)
  have H2 := hid fun w => root_Sqrt (max a0 a1) w (by omega) (by omega)
  have H3 := hid fun w h => root_Length A n c xs w h hx (by omega)
  have H4 := hid fun (A' : Option Addr) (c' : Nat) (w : World) h => root_Length A' (n + 1) c' (xs ++ [a3]) w h hx' (by omega)
  have d2 : decide (rootP (sqP xs) ≤ rootP (sqP (xs ++ [a3]))) = true := by simpa using rises xs a3
  obtain ⟨x1, x2⟩ := hx3
  clear hx hx'
  obtain ⟨i0, hi, hz, hz1, hz2⟩ := info_parts info32r
  generalize rootP (sqP xs) = r1 at *
  generalize rootP (sqP (xs ++ [a3])) = r2 at *
  have d3 : decide (rootP (min a0 a1) ≤ rootP (max a0 a1)) = true := by simpa using root_mono (n := min a0 a1) (m := max a0 a1) (by omega) (by omega)
  generalize rootP (min a0 a1) = s1 at *
  generalize rootP (max a0 a1) = s2 at *
  go_enter Try.func9, Try.ntmps9
  go_wp2_with fail
  refine (HK.out _).mono ?_
  rintro e w1 ⟨rfl, hb⟩
  go_wp2_with fail
  refine (H1.out _).mono ?_
  rintro e w' ⟨rfl, rfl⟩
  go_wp2_with fail
  refine (H2.out _).mono ?_
  rintro e w' ⟨rfl, rfl⟩
  go_wp2_with fail
  refine (H3.out _ ((hr.below hb).more hb.size)).mono ?_
  rintro e w' ⟨rfl, rfl⟩
  go_wp2_with (first
    | (at_builtin; refine wpList_app_g rfl (.tmp 29) (.tmp 30) _ rfl w.heap.size 21 i0 0 4 Try.underlying34 hi hz hz1 hz2 (some ⟨w1.heap.size, 0, none⟩) 0 0 [] rfl (Own.empty .i32 w1 _ hb.size) w.heap.size A n c xs rfl ((hr.below hb).alloc hb.size _) (by unfold maxLen; omega) (by omega) (by have := hb.size; simp; omega) ?_; intro A2 c2 w2 ho2 hg2; simp only [Nat.zero_add, List.nil_append] at ho2; have hb2 := own_below (hb.alloc hb.size _) (Own.empty .i32 w1 _ hb.size) hg2 (by have := hb.size; simp; omega))
    | (at_builtin; refine wpList_app_g rfl (.tmp 31) (.tmp 33) _ rfl w.heap.size 21 i0 0 4 Try.underlying34 hi hz hz1 hz2 A2 n c2 xs rfl (ho2.alloc _) (w2.heap.size + 1) (some ⟨w2.heap.size, 0, none⟩) 1 1 [a3] rfl (Row.blk (Blk.new _ _ _) rfl (by omega)) (by unfold maxLen; omega) (by omega) (by have := hb2.size; simp; omega) ?_; intro A3 c3 w3 ho3 hg3; have hb3 := own_below (hb2.alloc hb2.size _) (ho2.alloc _) hg3 (by have := hb2.size; simp; omega)))
  refine (H4.out _ _ _ ho3.row).mono ?_
  rintro e w' ⟨rfl, rfl⟩
  go_wp2
  go_ret
  exact ⟨rfl, hb3⟩
end Go.Proofs.Ythfcbaiminjkbaa
