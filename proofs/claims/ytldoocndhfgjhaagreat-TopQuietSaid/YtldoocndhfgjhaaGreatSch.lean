/- Chapter 44: an event is told. -/
import Derived.Test.YtldoocndhfgjhaaGreatNode
import Derived.Test.YtldoocndhfgjhaaGreatWide
import Derived.Test.YtldoocndhfgjhaaGreatStab
import Derived.Deep.CutRange
namespace Go.Proofs.YtldoocndhfgjhaaGreat
open Go.RowKit
set_option linter.unusedVariables false
set_option linter.unusedSimpArgs false

theorem even_ev (X : Value) (h : X.oneCell' = true) : Even 123 [evL X] := by
  intro p hp
  have : p = evL X := by simpa using hp
  subst this
  refine ⟨rfl, fun u hu => ?_⟩
  simp only [evL, List.mem_cons, List.not_mem_nil, or_false] at hu
  rcases hu with rfl | rfl | rfl | rfl | rfl | rfl | rfl | rfl | rfl | rfl | rfl | rfl | rfl | rfl | rfl | rfl | rfl | rfl | rfl | rfl | rfl | rfl | rfl | rfl | rfl | rfl | rfl | rfl | rfl | rfl | rfl | rfl | rfl | rfl | rfl | rfl | rfl | rfl | rfl | rfl | rfl | rfl | rfl | rfl | rfl | rfl | rfl | rfl | rfl | rfl | rfl | rfl | rfl | rfl | rfl | rfl | rfl | rfl | rfl | rfl | rfl | rfl | rfl | rfl | rfl | rfl | rfl | rfl | rfl | rfl | rfl | rfl | rfl | rfl | rfl | rfl | rfl | rfl | rfl | rfl | rfl | rfl | rfl | rfl | rfl | rfl | rfl | rfl | rfl | rfl | rfl | rfl | rfl | rfl | rfl | rfl | rfl | rfl | rfl | rfl | rfl | rfl | rfl | rfl | rfl | rfl | rfl | rfl | rfl | rfl | rfl | rfl | rfl | rfl | rfl | rfl | rfl | rfl | rfl | rfl | rfl | rfl | rfl <;> first | rfl | exact h
theorem fill_tmp {f : Nat → Option (Nat × Nat)} {c : Array Value} {r : Option (Array Value)} {a : Act} {k : Nat} {v : Value} (hv : a.eval (.tmp k) = v) (h : Instr.fill f c [(0, v)] = r) : Instr.fill f c ((#[(0, Operand.tmp k)] : Array (Nat × Operand)).map fun (i, x) => (i, a.eval x)).toList = r := by
  subst hv; simpa using h
/-- What an event leaves: the node's block and the row of events may turn. -/
def PT1 (nb : Nat) (v : Value) (i : Nat) : Prop := i = nb ∨ v.ownBlock = some i
set_option maxRecDepth 40000 in
set_option maxHeartbeats 8000000 in
theorem n_tell (nb base n c : Nat) (A : Option Addr) (X a b s : Value) (rest : List Value) (evs : List (List Value)) (w : World) (hX : X.oneCell' = true) (hN : Blk w nb 106 (a :: b :: s :: .slice A n c :: rest).toArray) (hO : OTab 123 w base 75 A n c evs) (hb : base ≤ w.heap.size) (hn : n ≤ 10000) :
    Calls Tryz.prog 47 #[.pointer (some ⟨nb, 0, none⟩), .agg (evL X).toArray] w fun e w' => e = .returned (.tuple #[]) ∧ ∃ A' c', Blk w' nb 106 (a :: b :: s :: .slice A' (n + 1) c' :: rest).toArray ∧ OTab 123 w' base 75 A' (n + 1) c' (evs ++ [evL X]) ∧ Kept (PT1 nb (.slice A n c)) w w' := by
  obtain ⟨ev, hev⟩ : ∃ ev, (evL X).toArray = ev := ⟨_, rfl⟩
  have HEV := hid hev
  rw [hev]
  clear hev
  have e0 := Blk.new w 75 ev
  have hK := (Kept.refl (PT1 nb (.slice A n c)) w).alloc (.cells ev 75)
  have hN1 := hN.alloc (.cells ev 75)
  have hO1 := hO.alloc (.cells ev 75)
  obtain ⟨i0, hi, hz, hz1, hby⟩ : ∃ i, Tryz.prog.info? 75 = some i ∧ i.zero = some (.agg zeL.toArray) ∧ i.size = 123 ∧ i.bytes ≤ 2000 := by
    have h := infoEvent
    cases e : Tryz.prog.info? 75 with
    | none => rw [e] at h; cases h
    | some i =>
      rw [e] at h
      simp only [Option.map_some, Option.some.injEq, Prod.mk.injEq, decide_eq_true_eq] at h
      exact ⟨i, rfl, h.1, h.2.1, h.2.2⟩
  have hsz2 : (Tryz.prog.info? 75).map (·.size) = some ev.size := by rw [hi, ← HEV.out]; simp [hz1, evL]
  have hfill : Instr.fill (fun i => some (i * i0.size, i0.size)) ((Array.range (1 * i0.size)).map ((Value.agg zeL.toArray).cells[· % (Value.agg zeL.toArray).cells.size]!)) [(0, .agg ev)] = some ev := by
    rw [hz1, ← HEV.out]; kernel_rfl
  have hK0s : w.heap.size ≤ (w.alloc (.cells ev 75)).heap.size := by simp
  go_enter Tryz.func47, Tryz.ntmps47
  go_upto_region 1 with fail
  generalize w.alloc (.cells ev 75) = W0 at *
  refine late_region 10 (S := fun w' => w'.cell? ⟨nb, 3, none⟩ = some (.slice A n c)) (by kernel_rfl) (fun hHeld => ?_) (hN1.cell 3)
  refine (show wpAnyE _ _ _ _ _ _ 11 _ _ _ from ?_)
  try (simp only [Act.put, List.setIfInBounds_toArray, List.set_cons_zero, List.set_cons_succ])
  replace e0 := e0.drew
  replace hN1 := hN1.drew
  replace hO1 := hO1.drew
  replace hK := hK.drew
  have hbV : base ≤ W0.drew.heap.size := Nat.le_trans hb hK.below.size
  generalize W0.drew = V0 at *
  refine tkE 0 hHeld ?_
  refine tkE 1 hHeld ?_
  refine tkE 2 hHeld ?_
  refine tkE 3 hHeld ?_
  refine tkE 4 hHeld ?_
  refine rdE 5 (fun KK hKK => ?_)
  rw [if_pos (by kernel_rfl)]
  refine wp_load_row 75 (.tmp 3) rfl w.heap.size rfl 75 ev (0, 0) _ e0 Tryz.underlying75 rfl hsz2 ?_
  refine hKK.out _ _ (hN1.cell 3) (fun hHeld => ?_)
  clear hKK KK
  try (simp only [Act.put, List.setIfInBounds_toArray, List.set_cons_zero, List.set_cons_succ])
  refine rdE 6 (fun KK hKK => ?_)
  rw [if_pos (by kernel_rfl)]
  refine wp_buildSlice 26 75 1 _ rfl ev i0 _ Tryz.underlying26 hi hz (by rw [hz1]; decide) (by rw [hz1]; decide) (fill_tmp rfl hfill) ?_
  have gn := Blk.new V0 75 ev
  replace hN1 := hN1.alloc (.cells ev 75)
  replace hO1 := hO1.alloc (.cells ev 75)
  replace hK := hK.alloc (.cells ev 75)
  have hgl : V0.heap.size < (V0.alloc (.cells ev 75)).heap.size := by simp
  generalize V0.alloc (.cells ev 75) = V1 at *
  generalize V0.heap.size = gx at *
  refine hKK.out _ _ (hN1.cell 3) (fun hHeld => ?_)
  clear hKK KK
  try (simp only [Act.put, List.setIfInBounds_toArray, List.set_cons_zero, List.set_cons_succ])
  refine rdE 7 (fun KK hKK => ?_)
  rw [if_pos (by kernel_rfl)]
  refine wp_appW (.tmp 8) (.tmp 10) _ rfl base 75 i0 _ 123 i0.bytes Tryz.underlying26 hi hz hz1 rfl rfl (by omega) A n c evs rfl hO1 V1.heap.size (some ⟨gx, 0, none⟩) 1 1 [evL X] rfl (Tab.blk gn (by rw [← HEV.out]; rfl) (even_ev X hX) rfl hgl) (by unfold maxLen; omega) (Nat.le_trans (Nat.mul_le_mul (show n + 1 ≤ 10001 by omega) hby) (by omega)) (by omega) ?_
  intro A2 c2 V2 hO2 hg2
  have hne := hO1.ne_ hN1 (by decide)
  replace hN1 := hN1.grown hg2 hne
  have hK2 : Kept (PT1 nb (.slice A n c)) w V2 := hK.trans ⟨⟨hg2.os, hg2.tape, hg2.output, hg2.size, fun i hi => by omega⟩, fun i hi hp => hg2.block i hi (fun e => hp (Or.inr e.symm))⟩
  clear hK gn hO1 hg2
  refine hKK.out _ _ (hN1.cell 3) (fun hHeld => ?_)
  clear hKK KK
  try (simp only [Act.put, List.setIfInBounds_toArray, List.set_cons_zero, List.set_cons_succ])
  refine rdE 8 (fun KK hKK => ?_)
  go_simp
  try go_wp2_with fail
  refine hKK.out _ _ (hN1.cell 3) (fun hHeld => ?_)
  clear hKK KK
  try (simp only [Act.put, List.setIfInBounds_toArray, List.set_cons_zero, List.set_cons_succ])
  refine rdE 9 (fun KK hKK => ?_)
  go_simp
  try go_wp2_with fail
  refine hKK.out _ _ (hN1.cell 3) (fun hHeld => ?_)
  clear hKK KK
  try (simp only [Act.put, List.setIfInBounds_toArray, List.set_cons_zero, List.set_cons_succ])
  refine rdLast 10 (fun KK hKK => ?_)
  have z0 := hN1.frozen 3
  have y0 : V2.cell? ⟨nb, 3, none⟩ = some (.slice A n c) := hN1.cell 3
  go_simp
  try go_wp2_with fail
  have t1 := hN1.set_ 3 (.slice A2 (n + 1) c2)
  simp only [List.setIfInBounds_toArray, List.set_cons_zero, List.set_cons_succ] at t1
  have t2 := hO2.kept (only_set (World.grownBy.refl V2 (some nb)) 3 (.slice A2 (n + 1) c2)) (Or.inr (Ne.symm (hO2.ne_ hN1 (by decide))))
  have t3 := hK2.set_ (p := ⟨nb, 3, none⟩) (Or.inl (Or.inl rfl)) (.slice A2 (n + 1) c2)
  generalize V2.setCell ⟨nb, 3, none⟩ (.slice A2 (n + 1) c2) = V3 at *
  have H1 := hid t1
  have H2 := hid t2
  clear t1 t2 hO2 hN1 z0 y0
  refine hKK.out _ _ ?_
  clear hKK KK hHeld
  refine doneE ?_ (by kernel_rfl) _
  go_wp2_with fail
  go_end0
  exact ⟨rfl, A2, c2, H1.out, H2.out, t3⟩
end Go.Proofs.YtldoocndhfgjhaaGreat
namespace Go.Proofs.YtldoocndhfgjhaaGreat
open Go.RowKit
set_option linter.unusedVariables false
set_option linter.unusedSimpArgs false

def partL (size : Int) (sg : Bool) (s : ByteArray) : List Value := [.string s, .int .i64 size, .bool sg, .int .i64 0]
def nameL (s : ByteArray) : List Value := [.string s]
theorem even_parts (size : Int) (sg : Bool) (ns : List ByteArray) : Even 4 (ns.map (partL size sg)) := by
  intro p hp
  obtain ⟨s, _, rfl⟩ := List.mem_map.1 hp
  refine ⟨rfl, fun u hu => ?_⟩
  simp [partL] at hu
  rcases hu with rfl | rfl | rfl | rfl <;> rfl
theorem even_names (ns : List ByteArray) : Even 1 (ns.map nameL) := by
  intro p hp
  obtain ⟨s, _, rfl⟩ := List.mem_map.1 hp
  refine ⟨rfl, fun u hu => ?_⟩
  simp [nameL] at hu
  subst hu; rfl
theorem map_take_snoc {α β : Type} (f : α → β) (xs : List α) (j : Nat) (x : α) (h : xs[j]? = some x) : (xs.take (j + 1)).map f = (xs.take j).map f ++ [f x] := by
  have hl := (List.getElem?_eq_some_iff.1 h).1
  rw [List.take_succ_eq_append_getElem hl, List.map_append]
  have := (List.getElem?_eq_some_iff.1 h).2
  simp [this]
/-- A new list of parts. -/
def PartsOut (ps : List (List Value)) (w : World) (e : Ending) (w' : World) : Prop := ∃ A' c', e = .returned (.slice A' ps.length c') ∧ OTab 4 w' w.heap.size 190 A' ps.length c' ps ∧ Below w.heap.size w w'
theorem infoPart : (Tryz.prog.info? 190).map (fun i => (i.zero, i.size, i.bytes)) = some (some (.agg #[.string { data := #[] }, .int .i64 0, .bool false, .int .i64 0]), 4, 40) := by kernel_rfl
set_option maxHeartbeats 2000000 in
theorem s_parts (size : Int) (sg : Bool) (A : Option Addr) (cap : Nat) (ns : List ByteArray) (w : World) (h : Tab 1 w w.heap.size A ns.length (ns.map nameL)) (hn : ns.length ≤ 1000) :
    Calls Tryz.prog 146 #[.int .i64 size, .bool sg, .slice A ns.length cap] w (PartsOut (ns.map (partL size sg)) w) := by
  obtain ⟨i0, hi, hz, hz1, hz2⟩ := info_parts3 infoPart
  obtain ⟨n, hnn⟩ : ∃ n, ns.length = n := ⟨_, rfl⟩
  have HO : Hid (∀ A' c' w', OTab 4 w' w.heap.size 190 A' n c' (ns.map (partL size sg)) → Below w.heap.size w w' → PartsOut (ns.map (partL size sg)) w (.returned (.slice A' n c')) w') := hid fun A' c' w' h1 h2 => ⟨A', c', by rw [List.length_map, hnn], by rw [List.length_map, hnn]; exact h1, h2⟩
  rw [hnn] at h hn ⊢
  go_enter Tryz.func146, Tryz.ntmps146
  go_wp2
  go_loopw [7, 12] (fun p i wr => ∃ (j : Nat) (X : Option Addr) (d : Nat), j ≤ n ∧ i = .int .i64 j ∧ p = .slice X j d ∧ OTab 4 wr w.heap.size 190 X j d ((ns.take j).map (partL size sg)) ∧ Below w.heap.size w wr) (fun _ i _ => n - (intOf i).toNat)
  case atStart => exact ⟨0, none, 0, Nat.zero_le _, rfl, rfl, OTab.nil_ _ _ _ _, Below.refl _ _⟩
  case round =>
    obtain ⟨j, X, d, hj, rfl, rfl, ho, hb⟩ := hrel
    by_cases hlt : j < n
    · have hns : j < ns.length := by omega
      obtain ⟨s, hs⟩ : ∃ s, ns[j]? = some s := ⟨_, List.getElem?_eq_getElem hns⟩
      obtain ⟨ad, rfl, _, hcell⟩ := (h.below hb).at_ (j := j) (p := nameL s) (by rw [List.getElem?_map, hs]; rfl)
      have hc := hcell 0 (.string s) rfl
      rw [Nat.mul_one, Nat.add_zero] at hc
      have HT := hid (map_take_snoc (partL size sg) ns j s hs)
      have m1 : n - (j + 1) < n - j := by omega
      have hsz := hb.size
      have j0 : (0 : Int) ≤ (j : Int) := by omega
      have j1 : (j : Int) < (n : Int) := by omega
      have HH := hid h
      clear hcell hs hnn h
      go_wp2_with (first
        | (at_builtin; refine wpList_appW rfl (.tmp 16) (.tmp 21) _ rfl w.heap.size 190 i0 _ 4 40 Tryz.underlying152 hi hz hz1 hz2 rfl (by omega) X j d _ rfl (ho.alloc _) (wr.heap.size + 1) (some ⟨wr.heap.size, 0, none⟩) 1 1 [partL size sg s] rfl (Tab.blk (Blk.new _ _ _) rfl (even_parts size sg [s]) rfl (by omega)) (by unfold maxLen; omega) (by omega) (by simp; omega) ?_; intro X2 d2 w2 ho2 hg2; have hb2 := otab_below (hb.alloc hsz _) (ho.alloc _) hg2 (by simp; omega)))
      go_roundw
      case rel => exact ⟨j + 1, X2, d2, by omega, by go_num, rfl, by rw [HT.out]; exact ho2, hb2⟩
      case measure => simpa [intOf] using m1
    · obtain rfl : j = n := by omega
      have e : ns.take j = ns := List.take_of_length_le (by omega)
      rw [e] at ho
      have HX := hid ho
      clear e h ho
      go_wp2
      go_ret
      exact HO.out _ _ _ HX.out hb
end Go.Proofs.YtldoocndhfgjhaaGreat
