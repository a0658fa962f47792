/- Chapter 42: what is known of a slice of samples that came in. -/
import Derived.Test.YtgmepohfkpncmaaGreatFuseN
import Derived.Test.YtgmepohfkpncmaaGreatFuseA
import Derived.Deep.Slices
import Derived.Deep.Fields
import Derived.ChangeSame
import Derived.OpenShut
namespace Go.Proofs.YtgmepohfkpncmaaGreat
open Go.Joins Go.ChangeShapes Go.WideShapes Go.ChangeAt Go.RowKit Go.Deep
set_option linter.unusedVariables false
set_option linter.unusedSimpArgs false

theorem pick_all {T : Type} [Inhabited T] (n : Nat) (P : Nat → T → Prop) (h : ∀ i, i < n → ∃ t, P i t) : ∃ f : Nat → T, ∀ i, i < n → P i (f i) := by
  classical
  refine ⟨fun i => if hi : i < n then Classical.choose (h i hi) else default, fun i hi => ?_⟩
  simp only [dif_pos hi]
  exact Classical.choose_spec (h i hi)
theorem len7 {T : Type} (l : List T) (h : l.length = 7) : ∃ a b c d e f g, l = [a, b, c, d, e, f, g] := by
  match l, h with
  | [a, b, c, d, e, f, g], _ => exact ⟨a, b, c, d, e, f, g, rfl⟩
def pick7 (a b c d e f g : Int) (k : Nat) : Int := match k with | 0 => a | 1 => b | 2 => c | 3 => d | 4 => e | 5 => f | _ => g
set_option maxRecDepth 100000 in
theorem samples_of {H : Type} {enc : TypeId × Value → H} {W : World} {held : Bool} {fuel : Nat} {a : Option Addr} {len cap : Nat} {x : DataW H × List MemPlace} (h : DataW.trod enc Tryz.prog W 0 (fun _ => true) held fuel 42 [.slice a len cap] = some x) :
    ∃ sm : Nat → Nat → Int, SamplesIn W W.heap.size a len sm := by
  rcases open_slice Tryz.underlying42 h with ⟨hcs, _⟩ | ⟨ad, l, c, m, n, D, Pl, hcs, _, hl, hm, hmm, hx, hi⟩
  · simp at hcs
    obtain ⟨rfl, rfl, rfl⟩ := hcs
    exact ⟨fun _ _ => 0, fun _ => rfl, fun ad e => by cases e⟩
  · simp at hcs
    obtain ⟨rfl, rfl, rfl⟩ := hcs
    obtain rfl : m = cap := by simpa using hmm
    have H : ∀ i, i < len → ∃ p : Nat → Int, ad.block < W.heap.size ∧ ∀ k, k < 7 → W.cell? (ad.add (i * 7 + k)) = some (.int .i32 (p k)) ∧ I32 (p k) := by
      intro i hil
      obtain ⟨cs', hc, ht⟩ := hi i (by omega)
      rw [cells_m] at hc
      obtain ⟨_, hcl, hat⟩ := World.cells?_some hc
      obtain ⟨v0, v1, v2, v3, v4, v5, v6, rfl⟩ := len7 cs' hcl
      obtain ⟨z0, z1, z2, m', _, _, h0, h1, h2⟩ := trod_struct3 Tryz.underlying29 ht
      simp [cells_32, cells_v] at h0 h1 h2
      obtain ⟨y0, y1, y2, rfl, rfl, rfl, rfl, a0, a1, a2⟩ := trod_vec h0
      obtain ⟨x0, x1, x2, rfl, rfl, rfl, rfl, a3, a4, a5⟩ := trod_vec h1
      obtain ⟨d, e2, rfl, a6⟩ := DataW.trod_int Tryz.underlying21 h2
      simp only [List.cons.injEq, and_true] at e2
      subst e2
      have c0 := hat 0 (by omega)
      have hbl : ad.block < W.heap.size := by
        have := World.block_lt_of_cell? W _ c0
        rwa [add_block, add_block] at this
      refine ⟨pick7 y0 y1 y2 x0 x1 x2 d, hbl, fun k hk => ?_⟩
      have ck := hat k (by omega)
      rw [Go.Deep.add_add] at ck
      obtain rfl | rfl | rfl | rfl | rfl | rfl | rfl : k = 0 ∨ k = 1 ∨ k = 2 ∨ k = 3 ∨ k = 4 ∨ k = 5 ∨ k = 6 := by omega
      · exact ⟨ck, bounds_i32 a0⟩
      · exact ⟨ck, bounds_i32 a1⟩
      · exact ⟨ck, bounds_i32 a2⟩
      · exact ⟨ck, bounds_i32 a3⟩
      · exact ⟨ck, bounds_i32 a4⟩
      · exact ⟨ck, bounds_i32 a5⟩
      · exact ⟨ck, bounds_i32 a6⟩
    obtain ⟨f, hf⟩ := pick_all len _ H
    exact ⟨f, fun e => (by cases e), fun ad' e j hj => by cases e; exact hf j hj⟩
end Go.Proofs.YtgmepohfkpncmaaGreat
