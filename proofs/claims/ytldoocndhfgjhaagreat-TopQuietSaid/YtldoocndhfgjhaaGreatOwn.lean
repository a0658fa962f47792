/- Words and small lemmas that the seat's texts share: a slice of integers that reads as a list; frames. -/
import Derived.Test.YtldoocndhfgjhaaGreatRows
import Derived.WalkKit
import Derived.ProofKit
import Derived.OpenShut
import Derived.Below
import Derived.Lib.Hide
import Derived.Laws.OwnMore
import Derived.Deep.AppendLies
import Derived.Deep.Draws
import Derived.Maps.AppendAt
namespace Go.Proofs.YtldoocndhfgjhaaGreat
open Go.RowKit

theorem hid {p : Prop} (h : p) : Hid p := h
theorem add_block (a : Addr) (n : Nat) : (a.add n).block = a.block := by unfold Addr.add; split <;> rfl
theorem add_twice (a : Addr) (i j : Nat) : (a.add i).add j = a.add (i + j) := by
  unfold Addr.add
  by_cases hi : i = 0 <;> by_cases hj : j = 0 <;> simp [hi, hj, Nat.add_assoc]

theorem add_succ (a : Addr) (m : Nat) : a.add (m + 1) = { block := a.block, off := a.off + (m + 1) } := by simp [Addr.add]
/-- The slice whose head is A holds the n integers xs of kind k, and lies below block B. -/
def Row (k : IntKind) (w : World) (B : Nat) (A : Option Addr) (n : Nat) (xs : List Int) : Prop :=
  xs.length = n ∧ (A = none → n = 0) ∧ ∀ ad, A = some ad → ∀ j, j < n → ad.block < B ∧ w.cell? (ad.add j) = some (.int k (xs[j]?.getD 0))

section
variable {k : IntKind} {w w' : World} {B B' n : Nat} {A : Option Addr} {xs : List Int}
theorem Row.none_ : Row k w B none 0 [] := ⟨rfl, fun _ => rfl, fun _ h => by cases h⟩
theorem Row.keep (h : Row k w B A n xs) (hk : ∀ p : Addr, p.block < B → w'.cell? p = w.cell? p) : Row k w' B A n xs :=
  ⟨h.1, h.2.1, fun ad ha j hj => ⟨(h.2.2 ad ha j hj).1, (hk _ (by rw [add_block]; exact (h.2.2 ad ha j hj).1)).trans (h.2.2 ad ha j hj).2⟩⟩
theorem Row.more (h : Row k w B A n xs) (hB : B ≤ B') : Row k w B' A n xs := ⟨h.1, h.2.1, fun ad ha j hj => ⟨Nat.lt_of_lt_of_le (h.2.2 ad ha j hj).1 hB, (h.2.2 ad ha j hj).2⟩⟩
theorem Row.at_ (h : Row k w B A n xs) {j : Nat} (hj : j < n) : ∃ ad, A = some ad ∧ ad.block < B ∧ w.cell? (ad.add j) = some (.int k (xs[j]?.getD 0)) := by
  cases A with
  | none => exact absurd (h.2.1 rfl) (by omega)
  | some ad => exact ⟨ad, rfl, h.2.2 ad rfl j hj⟩
theorem Row.take (h : Row k w B A n xs) {m : Nat} (hm : m ≤ n) (hp : A = none → m = 0) : Row k w B A m (xs.take m) := ⟨by simp [h.1]; omega, hp, fun ad e j hj => by
  have := h.2.2 ad e j (by omega)
  simpa [hj] using this⟩
theorem Row.below (h : Row k w B A n xs) (hb : Below B w w') : Row k w' B A n xs := h.keep fun _ hp => hb.cell hp
theorem Row.drewN (h : Row k w B A n xs) (i : Nat) : Row k (w.drewN i) B A n xs := h
theorem Row.drew (h : Row k w B A n xs) : Row k w.drew B A n xs := h
theorem Row.alloc (h : Row k w B A n xs) (hB : B ≤ w.heap.size) (o : Obj) : Row k (w.alloc o) B A n xs := h.keep fun p hp => World.cell?_alloc_lt w o p (by omega)
theorem Row.setCell (h : Row k w B A n xs) {p : Addr} (hB : B ≤ p.block) (u : Value) : Row k (w.setCell p u) B A n xs :=
  h.keep fun q hq => World.cell?_setCell_other w p q u (fun e => by subst e; omega)
end

/-- What a law is told of a slice of integers that came in. -/
def In (k : IntKind) (w : World) (A : Option Addr) (n c : Nat) (xs : List Int) : Prop := Row k w w.heap.size A n xs ∧ n ≤ maxLen ∧ n ≤ c ∧ ∀ x ∈ xs, (Lit.int k x).wf = true
/-- Block g is just the cells cs of element type t, none frozen. -/
def Blk (w : World) (g : Nat) (t : TypeId) (cs : Array Value) : Prop := w.heap[g]? = some (.cells cs t (0, 0))
section
variable {w w' : World} {g : Nat} {t : TypeId} {cs : Array Value}
theorem Blk.lt (h : Blk w g t cs) : g < w.heap.size := by
  rcases Nat.lt_or_ge g w.heap.size with hlt | hge
  · exact hlt
  · unfold Blk at h; rw [Array.getElem?_eq_none hge] at h; cases h
theorem Blk.cell (h : Blk w g t cs) (i : Nat) : w.cell? ⟨g, i, none⟩ = cs[i]? := cell_of_row w g i cs t (0, 0) h
theorem Blk.frozen (h : Blk w g t cs) (i : Nat) : w.frozen? ⟨g, i, none⟩ = false := by
  unfold Blk at h
  simp [World.frozen?, h]
theorem Blk.new (w : World) (t : TypeId) (cs : Array Value) : Blk (w.alloc (.cells cs t)) w.heap.size t cs := heap_alloc_new w _
theorem Blk.drew (h : Blk w g t cs) : Blk w.drew g t cs := h
theorem Blk.alloc (h : Blk w g t cs) (o : Obj) : Blk (w.alloc o) g t cs := (Below.heap_alloc w o g h.lt).trans h
theorem Blk.set_ (h : Blk w g t cs) (i : Nat) (u : Value) : Blk (w.setCell ⟨g, i, none⟩ u) g t (cs.setIfInBounds i u) := by
  unfold Blk at h ⊢
  simp [World.setCell, Array.getElem?_modify, h]
theorem Blk.far (h : Blk w g t cs) {p : Addr} (hp : g ≠ p.block) (u : Value) : Blk (w.setCell p u) g t cs := (Below.heap_setCell w p u g hp).trans h
theorem Blk.below {B : Nat} (h : Blk w g t cs) (hb : Below B w w') (hg : g < B) : Blk w' g t cs := (hb.block g hg).trans h
theorem Blk.grown {row : Option Nat} (h : Blk w g t cs) (hb : w.grownBy w' row) (hg : some g ≠ row) : Blk w' g t cs := (hb.block g h.lt hg).trans h
theorem Blk.alike (h : Blk w g t cs) (ha : w'.Alike w) : Blk w' g t cs := by
  unfold Blk at h ⊢
  rw [ha.1]; exact h
end
theorem _root_.Go.RowKit.Below.drewN' {B : Nat} {a w : World} (h : Below B a w) (n : Nat) : Below B a (w.drewN n) := ⟨h.os, h.tape, h.output, h.size, h.block⟩
theorem only_drew {a w : World} {row : Option Nat} (h : a.grownBy w row) : a.grownBy w.drew row := ⟨h.os, h.tape, h.output, h.size, h.block⟩
theorem only_drewN {a w : World} {row : Option Nat} (h : a.grownBy w row) (n : Nat) : a.grownBy (w.drewN n) row := ⟨h.os, h.tape, h.output, h.size, h.block⟩
theorem only_alloc {a w : World} {row : Option Nat} (h : a.grownBy w row) (o : Obj) : a.grownBy (w.alloc o) row :=
  ⟨h.os, h.tape, h.output, Nat.le_trans h.size (by simp), fun i hi hne => (Below.heap_alloc w o i (Nat.lt_of_lt_of_le hi h.size)).trans (h.block i hi hne)⟩
theorem only_setCell {a w : World} {g : Nat} (h : a.grownBy w (some g)) {p : Addr} (hp : p.block = g ∨ a.heap.size ≤ p.block) (u : Value) : a.grownBy (w.setCell p u) (some g) :=
  ⟨h.os, h.tape, h.output, by simpa [World.setCell] using h.size, fun i hi hne => (Below.heap_setCell w p u i (by
    rintro rfl
    rcases hp with hp | hp
    · exact hne (by rw [hp])
    · omega)).trans (h.block i hi hne)⟩
theorem only_set {a w : World} {g : Nat} (h : a.grownBy w (some g)) (i : Nat) (u : Value) : a.grownBy (w.setCell ⟨g, i, none⟩ u) (some g) := only_setCell h (p := ⟨g, i, none⟩) (.inl rfl) u

/-- A new block of integers reads as those. -/
theorem Row.blk {k : IntKind} {w : World} {B g : Nat} {t : TypeId} {cs : Array Value} {xs : List Int} (h : Blk w g t cs) (he : cs = (xs.map (Value.int k)).toArray) (hB : g < B) :
    Row k w B (some ⟨g, 0, none⟩) xs.length xs := by
  refine ⟨rfl, fun e => (by cases e), fun ad e => ?_⟩
  cases e
  intro j hj
  refine ⟨hB, ?_⟩
  have := h.cell j
  subst he
  have e2 : (⟨g, 0, none⟩ : Addr).add j = ⟨g, j, none⟩ := by unfold Addr.add; split <;> simp_all
  rw [e2, this]
  simp [hj]

/-- A slice of integers that the call itself has made. -/
def Own (k : IntKind) (w : World) (base : Nat) (e : TypeId) (A : Option Addr) (n c : Nat) (ys : List Int) : Prop := w.ownsRow base e 1 (.slice A n c) n (ys.map (Value.int k))
section
variable {k : IntKind} {w w' : World} {base : Nat} {e : TypeId} {A : Option Addr} {n c : Nat} {ys : List Int}
theorem Own.row (h : Own k w base e A n c ys) : Row k w w.heap.size A n ys := by
  have hl : ys.length = n := by simpa using h.1
  refine ⟨hl, fun e => ?_, fun ad e => ?_⟩
  · rcases h.2 with ⟨_, h0⟩ | ⟨g, cap, cur, hv, _⟩
    · exact h0
    · subst e; cases hv
  · subst e
    rcases h.2 with ⟨hv, _⟩ | ⟨g, cap, cur, hv, _, hg, _⟩
    · cases hv
    · cases hv
      intro j hj
      refine ⟨(Array.getElem?_eq_some_iff.1 hg).1, h.cells (g := g) rfl j _ ?_⟩
      simp [hl, hj]
theorem Own.alloc (h : Own k w base e A n c ys) (o : Obj) : Own k (w.alloc o) base e A n c ys := World.ownsRow.alloc h o
theorem Own.drew (h : Own k w base e A n c ys) : Own k w.drew base e A n c ys := h
theorem Own.rowB {B : Nat} (h : Own k w base e A n c ys) (hB : w.heap.size ≤ B) : Row k w B A n ys := h.row.more hB
theorem Own.lt (h : Own k w base e A n c ys) : ∀ i, (Value.slice A n c).ownBlock = some i → base ≤ i ∧ i < w.heap.size := World.ownsRow.lt h
theorem Own.kept {row : Option Nat} (h : Own k w base e A n c ys) (hg : w.grownBy w' row) (hne : (Value.slice A n c).ownBlock = none ∨ (Value.slice A n c).ownBlock ≠ row) : Own k w' base e A n c ys := World.ownsRow.kept h hg hne
theorem Own.empty (k : IntKind) (w : World) (e : TypeId) (hb : base ≤ w.heap.size) : Own k (w.alloc (.cells #[] e)) base e (some ⟨w.heap.size, 0, none⟩) 0 0 [] := World.ownsRow_made w #[] 0 hb (Nat.zero_le _) rfl
theorem Own.nil_ (k : IntKind) (w : World) (base : Nat) (e : TypeId) : Own k w base e none 0 0 [] := World.ownsRow_nil w base e 1
theorem Own.form (h : Own k w base e A n c ys) : (A = none ∧ n = 0 ∧ c = 0) ∨ ∃ g, A = some ⟨g, 0, none⟩ ∧ base ≤ g ∧ g < w.heap.size ∧ n ≤ c := by
  rcases h.2 with ⟨hv, h0⟩ | ⟨g, cap, cur, hv, hb, hg, hn, _⟩
  · cases hv; exact .inl ⟨rfl, rfl, rfl⟩
  · cases hv; exact .inr ⟨g, rfl, hb, (Array.getElem?_eq_some_iff.1 hg).1, hn⟩
theorem Own.cap_ (h : Own k w base e A n c ys) : n ≤ c := by
  rcases h.form with ⟨_, rfl, rfl⟩ | ⟨g, _, _, _, hc⟩
  · exact Nat.le_refl _
  · exact hc
theorem Own.len (h : Own k w base e A n c ys) : ys.length = n := by simpa using h.1
theorem Own.below {B : Nat} (h : Own k w base e A n c ys) (hb : Below B w w') (hB : w.heap.size ≤ B) : Own k w' base e A n c ys := by
  refine World.ownsRow.kept h (row := none) ⟨hb.os, hb.tape, hb.output, hb.size, fun i hi _ => hb.block i (by omega)⟩ ?_
  rcases h.form with ⟨rfl, _⟩ | ⟨g, rfl, _⟩
  · exact .inl rfl
  · exact .inr (by simp [Value.ownBlock])
end

section
variable {P : Program} {k : IntKind}
theorem run_app_nil (w : World) (base : Nat) (t ty e : TypeId) (i : TypeInfo) (ht : P.underlying t = some (.slice e)) (hi : P.info? e = some i)
    (v : Value) (n : Nat) (xs : List Value) (hown : w.ownsRow base e 1 v n xs) (c : Nat) : (Builtin.append_ #[t, t] ty #[v, .slice none 0 c]).run P w = .ok v w := by
  rcases hown.2 with ⟨rfl, rfl⟩ | ⟨g, cap, cur, rfl, _, _, hnc, _⟩
  · simp [Builtin.append_, run_underlying ht, sizeOf, typeInfo, hi, Builtin.lenOf, Builtin.firstCells]
  · simp [Builtin.append_, run_underlying ht, sizeOf, typeInfo, hi, Builtin.lenOf, Builtin.firstCells, hnc, storeCells]

theorem run_app (w : World) (base : Nat) (t ty e : TypeId) (i : TypeInfo) (z : Int) (bytes : Nat) (ht : P.underlying t = some (.slice e)) (hi : P.info? e = some i) (hz : i.zero = some (.int k z))
    (hsize : i.size = 1) (hby : i.bytes = bytes) (A : Option Addr) (n c : Nat) (ys : List Int) (hown : Own k w base e A n c ys)
    (B : Nat) (X : Option Addr) (m d : Nat) (xs : List Int) (hr : Row k w B X m xs)
    (h63 : n + m ≤ maxLen) (hbytes : (n + m) * bytes ≤ 140737488355328) (hbase : base ≤ w.heap.size) :
    ∃ A' c' w', (Builtin.append_ #[t, t] ty #[.slice A n c, .slice X m d]).run P w = .ok (.slice A' (n + m) c') w' ∧ Own k w' base e A' (n + m) c' (ys ++ xs) ∧ w.grownBy w' (Value.slice A n c).ownBlock := by
  cases X with
  | none =>
    obtain rfl : m = 0 := hr.2.1 rfl
    obtain rfl : xs = [] := List.eq_nil_of_length_eq_zero hr.1
    exact ⟨A, c, w, run_app_nil w base t ty e i ht hi _ n _ hown d, by simpa using hown, World.grownBy.refl w _⟩
  | some ad =>
    obtain ⟨v', w', h1, h2, h3, _, _⟩ := run_append_own_at (P := P) w base t ty e i (.int k z) 1 bytes ht hi hz hsize hby rfl (by decide) _ n _ hown ad m d (xs.map (Value.int k)) (by simp [hr.1])
      (fun j u hu => by
        rw [List.getElem?_map] at hu
        have hj : j < m := by
          rcases Nat.lt_or_ge j xs.length with h | h
          · rw [← hr.1]; exact h
          · rw [List.getElem?_eq_none h] at hu; cases hu
        have hc := (hr.2.2 ad rfl j hj).2
        rw [hc]
        have : j < xs.length := by rw [hr.1]; exact hj
        simp [this] at hu ⊢
        exact hu)
      (fun u hu => by
        obtain ⟨x, _, rfl⟩ := List.mem_map.1 hu
        rfl) h63 hbytes hbase
    rw [← List.map_append] at h2
    rcases h2.2 with ⟨hv, hn⟩ | ⟨g, cap, cur, hv, _⟩
    · subst hv
      refine ⟨none, 0, w', ?_, ?_, h3⟩
      · rw [hn]; exact h1
      · unfold Own; rw [hn] at h2 ⊢; exact h2
    · subst hv
      exact ⟨_, cap, w', h1, h2, h3⟩

theorem wp_app {o : Oper} {a : Act} {w : World} {K : Act → World → Prop} {Q : Exit → Act → World → Prop} (s x : Operand) (t : TypeId)
    (ho : o.op = .call { callee := .builtin .append, args := #[s, x], argTypes := #[t, t] })
    (base : Nat) (e : TypeId) (i : TypeInfo) (z : Int) (bytes : Nat) (ht : P.underlying t = some (.slice e)) (hi : P.info? e = some i) (hz : i.zero = some (.int k z))
    (hsize : i.size = 1) (hby : i.bytes = bytes) (A : Option Addr) (n c : Nat) (ys : List Int) (hs : a.eval s = .slice A n c) (hown : Own k w base e A n c ys)
    (B : Nat) (X : Option Addr) (m d : Nat) (xs : List Int) (hx : a.eval x = .slice X m d) (hr : Row k w B X m xs)
    (h63 : n + m ≤ maxLen) (hbytes : (n + m) * bytes ≤ 140737488355328) (hbase : base ≤ w.heap.size)
    (h : ∀ A' c' w', Own k w' base e A' (n + m) c' (ys ++ xs) → w.grownBy w' (Value.slice A n c).ownBlock → K (a.put o.dst (.slice A' (n + m) c')) w') : o.wp P a w K Q := by
  obtain ⟨A', c', w', hrun, h2, h3⟩ := run_app (P := P) w base t o.type e i z bytes ht hi hz hsize hby A n c ys hown B X m d xs hr h63 hbytes hbase
  unfold Oper.wp execOp
  simp only [ho, resolve, invoke, builtin, Sem.run_bind, Sem.run_pure, Result.andThen_ok, List.map_toArray, List.map_cons, List.map_nil, hs, hx, hrun]
  exact h A' c' w' h2 h3

theorem wpList_app {ops : Array Oper} {rest : List Oper} {o : Oper} {a : Act} {w : World} {Q : Exit → Act → World → Prop} (hgd : o.guard = none) (s x : Operand) (t : TypeId)
    (ho : o.op = .call { callee := .builtin .append, args := #[s, x], argTypes := #[t, t] })
    (base : Nat) (e : TypeId) (i : TypeInfo) (z : Int) (bytes : Nat) (ht : P.underlying t = some (.slice e)) (hi : P.info? e = some i) (hz : i.zero = some (.int k z))
    (hsize : i.size = 1) (hby : i.bytes = bytes) (A : Option Addr) (n c : Nat) (ys : List Int) (hs : a.eval s = .slice A n c) (hown : Own k w base e A n c ys)
    (B : Nat) (X : Option Addr) (m d : Nat) (xs : List Int) (hx : a.eval x = .slice X m d) (hr : Row k w B X m xs)
    (h63 : n + m ≤ maxLen) (hbytes : (n + m) * bytes ≤ 140737488355328) (hbase : base ≤ w.heap.size)
    (h : ∀ A' c' w', Own k w' base e A' (n + m) c' (ys ++ xs) → w.grownBy w' (Value.slice A n c).ownBlock → wpList P ops Q rest (a.put o.dst (.slice A' (n + m) c')) w') : wpList P ops Q (o :: rest) a w :=
  wpList_plain hgd fun _ hK => wp_app s x t ho base e i z bytes ht hi hz hsize hby A n c ys hs hown B X m d xs hx hr h63 hbytes hbase fun A' c' w' h2 h3 => hK _ _ (h A' c' w' h2 h3)
end
/-- What was appended to lies at or above 'base': nothing below has turned. -/
theorem own_below {k : IntKind} {w0 w w' : World} {base : Nat} {e : TypeId} {A : Option Addr} {n c : Nat} {ys : List Int} (hb : Below base w0 w) (h : Own k w base e A n c ys) (hg : w.grownBy w' (Value.slice A n c).ownBlock) (hbase : base ≤ w.heap.size) : Below base w0 w' :=
  hb.grown hg hbase (fun k hk => (h.lt k hk).1)
end Go.Proofs.YtldoocndhfgjhaaGreat
namespace Go.Proofs.YtldoocndhfgjhaaGreat
open Go.RowKit
section
variable {k : IntKind} {w w' : World} {base : Nat} {e : TypeId} {g n c : Nat} {ys : List Int}
theorem Own.pos {A : Option Addr} (h : Own k w base e A n c ys) (hn : 0 < n) : ∃ g, A = some ⟨g, 0, none⟩ ∧ base ≤ g ∧ g < w.heap.size := by
  rcases h.form with ⟨_, h0, _⟩ | ⟨g, h1, h2, h3, _⟩
  · omega
  · exact ⟨g, h1, h2, h3⟩
theorem Own.cell (h : Own k w base e (some ⟨g, 0, none⟩) n c ys) {j : Nat} (hj : j < n) : w.cell? ⟨g, j, none⟩ = some (.int k (ys[j]?.getD 0)) := by
  have := World.ownsRow.cellAt h j (by omega)
  rw [this]
  have hl := h.len
  simp [hl, hj]
theorem Own.free (h : Own k w base e (some ⟨g, 0, none⟩) n c ys) (j : Nat) : w.frozen? ⟨g, j, none⟩ = false := World.ownsRow.frozenAt h j
theorem Own.set_ (h : Own k w base e (some ⟨g, 0, none⟩) n c ys) (j : Nat) (v : Int) : Own k (w.setCell ⟨g, j, none⟩ (.int k v)) base e (some ⟨g, 0, none⟩) n c (ys.set j v) := by
  have := (World.ownsRow.stored h j (.int k v)).1
  unfold Own
  rw [List.map_set]
  exact this
theorem Own.ne_ {A : Option Addr} {t : TypeId} {cs : Array Value} (h : Own k w base e A n c ys) (hb : Blk w g t cs) (hne : e ≠ t) : some g ≠ (Value.slice A n c).ownBlock := by
  rcases h.2 with ⟨hv, _⟩ | ⟨g', cap, cur, hv, _, hh, _⟩
  · cases hv; intro e; cases e
  · cases hv
    intro he
    have : g = g' := by simpa [Value.ownBlock] using he
    subst this
    unfold Blk at hb
    rw [hh] at hb
    injection hb with hb
    injection hb with _ ht
    exact hne ht
theorem Own.setFar {A : Option Addr} {t : TypeId} {cs : Array Value} (h : Own k w base e A n c ys) (hb : Blk w g t cs) (hne : e ≠ t) (j : Nat) (u : Value) : Own k (w.setCell ⟨g, j, none⟩ u) base e A n c ys := by
  refine World.ownsRow.kept h (row := some g) (only_set (World.grownBy.refl w _) j u) (Or.inr (Ne.symm (h.ne_ hb hne)))
/-- A block of another type stays where an own slice was appended to. -/
theorem Own.keeps {A : Option Addr} {t : TypeId} {cs : Array Value} (h : Own k w base e A n c ys) (hb : Blk w g t cs) (o : Obj) (hg : (w.alloc o).grownBy w' (Value.slice A n c).ownBlock) (hne : e ≠ t) : Blk w' g t cs :=
  (hb.alloc o).grown hg ((h.alloc o).ne_ (hb.alloc o) hne)
end
theorem own_below_alloc {k : IntKind} {w0 w w' : World} {base : Nat} {e : TypeId} {A : Option Addr} {n c : Nat} {ys : List Int} (hb : Below base w0 w) (h : Own k w base e A n c ys) (o : Obj) (hg : (w.alloc o).grownBy w' (Value.slice A n c).ownBlock) (hbase : base ≤ w.heap.size) : Below base w0 w' :=
  own_below (hb.alloc hbase o) (h.alloc o) hg (by simp; omega)
end Go.Proofs.YtldoocndhfgjhaaGreat
