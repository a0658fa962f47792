/- Chapter 39: what is known of a slice of operations that came in. -/
import Derived.Test.YtbhfidneijogfaaWinN
import Derived.Deep.Slices
import Derived.Deep.Fields
import Derived.ChangeSame
import Derived.OpenShut
namespace Go.Proofs.Ytbhfidneijogfaa
open Go.ChangeShapes Go.WideShapes Go.ChangeAt Go.RowKit Go.Deep
set_option linter.unusedVariables false
set_option linter.unusedSimpArgs false

theorem pick_all {T : Type} [Inhabited T] (n : Nat) (P : Nat → T → Prop) (h : ∀ i, i < n → ∃ t, P i t) : ∃ f : Nat → T, ∀ i, i < n → P i (f i) := by
  classical
  refine ⟨fun i => if hi : i < n then Classical.choose (h i hi) else default, fun i hi => ?_⟩
  simp only [dif_pos hi]
  exact Classical.choose_spec (h i hi)

theorem len3 {T : Type} (l : List T) (h : l.length = 3) : ∃ a b c, l = [a, b, c] := by
  match l, h with
  | [a, b, c], _ => exact ⟨a, b, c, rfl⟩
theorem under_op : ∃ fs : Array Field, Try.prog.underlying 30 = some (.struct fs) ∧ (∃ f, fs[0]? = some f ∧ f.type = 4 ∧ f.offset = 0) ∧ (∃ f, fs[1]? = some f ∧ f.type = 27 ∧ f.offset = 1) ∧ (∃ f, fs[2]? = some f ∧ f.type = 3 ∧ f.offset = 2) ∧ fs.size = 3 :=
  ⟨_, Try.underlying30, ⟨_, rfl, rfl, rfl⟩, ⟨_, rfl, rfl, rfl⟩, ⟨_, rfl, rfl, rfl⟩, rfl⟩
theorem cells_op : Try.prog.cellsOf 30 = 3 := by kernel_rfl
theorem cells_bool : Try.prog.cellsOf 4 = 1 := by kernel_rfl
theorem cells_bytes : Try.prog.cellsOf 27 = 1 := by kernel_rfl
theorem cells_int : Try.prog.cellsOf 3 = 1 := by kernel_rfl
theorem cells_byte : Try.prog.cellsOf 5 = 1 := by kernel_rfl

theorem ops_of {H : Type} {enc : TypeId × Value → H} {W : World} {held : Bool} {fuel : Nat} {a : Option Addr} {len cap : Nat} {x : DataW H × List MemPlace} (h : DataW.trod enc Try.prog W 0 (fun _ => true) held fuel 22 [.slice a len cap] = some x) :
    ∃ (dr : Nat → Bool) (X : Nat → Option Addr) (sm sc : Nat → Nat) (xs : Nat → List Int) (cn : Nat → Int), OpsIn W W.heap.size a len dr X sm sc xs cn := by
  obtain ⟨fs, hfs, ⟨f0, e0, t0, o0⟩, ⟨f1, e1, t1, o1⟩, ⟨f2, e2, t2, o2⟩, hsz⟩ := under_op
  rcases open_slice Try.underlying22 h with ⟨hcs, _⟩ | ⟨ad, l, c, m, n, D, Pl, hcs, _, hl, hm, hmm, hx, hi⟩
  · simp at hcs
    obtain ⟨rfl, rfl, rfl⟩ := hcs
    exact ⟨fun _ => false, fun _ => none, fun _ => 0, fun _ => 0, fun _ => [], fun _ => 0, fun _ => rfl, fun ad e => by cases e⟩
  · simp at hcs
    obtain ⟨rfl, rfl, rfl⟩ := hcs
    obtain rfl : m = cap := by simpa using hmm
    have H : ∀ i, i < len → ∃ p : Bool × Option Addr × Nat × Nat × List Int × Int, ad.block < W.heap.size ∧ W.cell? (ad.add (i * 3)) = some (.bool p.1) ∧ W.cell? (ad.add (i * 3 + 1)) = some (.slice p.2.1 p.2.2.1 p.2.2.2.1) ∧ W.cell? (ad.add (i * 3 + 2)) = some (.int .i64 p.2.2.2.2.2) ∧
        Row .u8 W W.heap.size p.2.1 p.2.2.1 p.2.2.2.2.1 ∧ p.2.2.1 ≤ p.2.2.2.1 ∧ p.2.2.1 ≤ maxLen ∧ -9223372036854775808 ≤ p.2.2.2.2.2 ∧ p.2.2.2.2.2 ≤ 9223372036854775807 := by
      intro i hil
      obtain ⟨cs', hc, ht⟩ := hi i (by omega)
      rw [cells_op] at hc
      obtain ⟨ys, n', hn', hy, hlen, hyl, hf⟩ := DataW.trod_struct hfs ht
      obtain ⟨_, hcl, hat⟩ := World.cells?_some hc
      rw [hsz] at hyl
      obtain ⟨v0, v1, v2, rfl⟩ := len3 cs' hcl
      have g0 := hf 0 f0 e0
      have g1 := hf 1 f1 e1
      have g2 := hf 2 f2 e2
      rw [t0, o0, cells_bool] at g0
      rw [t1, o1, cells_bytes] at g1
      rw [t2, o2, cells_int] at g2
      rw [List.getElem?_eq_getElem (by omega)] at g0 g1 g2
      obtain ⟨b, hb, _⟩ := DataW.trod_bool Try.underlying4 g0
      obtain ⟨k, hk, _, hw⟩ := DataW.trod_int Try.underlying3 g2
      simp at hb hk
      subst hb
      subst hk
      have a0 := hat 0 (by omega)
      have a1 := hat 1 (by omega)
      have a2 := hat 2 (by omega)
      rw [Go.Deep.add_add] at a0 a1 a2
      simp only [List.getElem?_cons_zero, List.getElem?_cons_succ, Nat.add_zero] at a0 a1 a2
      have hbl : ad.block < W.heap.size := by
        have := World.block_lt_of_cell? W _ a0
        rwa [add_block] at this
      have hkb := bounds_i64 hw
      rcases open_ints Try.underlying27 Try.underlying5 cells_byte g1 with ⟨hcs, _⟩ | ⟨y, l, c, zs, hcs, _, hl', hm', hz, _, hcell, hwz⟩
      · simp at hcs
        subst hcs
        exact ⟨(b, none, 0, 0, [], k), hbl, a0, a1, a2, Row.none_, Nat.le_refl _, Nat.zero_le _, hkb.1, hkb.2⟩
      · simp at hcs
        subst hcs
        refine ⟨(b, some y, l, c, zs.take l, k), hbl, a0, a1, a2, ⟨by simp at hz ⊢; omega, fun e => (by cases e), fun ad' e j hj => ?_⟩, hl', Nat.le_trans hl' hm', hkb.1, hkb.2⟩
        cases e
        have hz' : zs.length = c := by simpa using hz
        have hj' : j < l := hj
        have hc := hcell j (by omega)
        refine ⟨by rw [← add_block y j]; exact World.block_lt_of_cell? W _ hc, ?_⟩
        rw [hc, List.getElem?_take, if_pos hj']
        simp
    obtain ⟨f, hf⟩ := pick_all len _ H
    exact ⟨fun i => (f i).1, fun i => (f i).2.1, fun i => (f i).2.2.1, fun i => (f i).2.2.2.1, fun i => (f i).2.2.2.2.1, fun i => (f i).2.2.2.2.2, fun e => (by cases e), fun ad' e j hj => by cases e; exact hf j hj⟩
end Go.Proofs.Ytbhfidneijogfaa
