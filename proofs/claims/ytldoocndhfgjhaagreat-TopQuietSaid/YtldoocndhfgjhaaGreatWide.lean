/- Slices of structs: an element is a list of cells. -/
import Derived.Test.YtldoocndhfgjhaaGreatOwn
namespace Go.Proofs.YtldoocndhfgjhaaGreat
open Go.RowKit
set_option linter.unusedVariables false
set_option linter.unusedSimpArgs false

/-- Each element has sz cells. -/
def Even (sz : Nat) (ps : List (List Value)) : Prop := ∀ p ∈ ps, p.length = sz ∧ ∀ u ∈ p, u.oneCell' = true
theorem Even.app {sz : Nat} {ps qs : List (List Value)} (h : Even sz ps) (k : Even sz qs) : Even sz (ps ++ qs) := fun p hp => (List.mem_append.1 hp).elim (h p) (k p)
theorem even_len {sz : Nat} {ps : List (List Value)} (h : Even sz ps) : ps.flatten.length = ps.length * sz := by
  induction ps with
  | nil => simp
  | cons p ps ih =>
    have h1 := (h p List.mem_cons_self).1
    have h2 := ih (fun q hq => h q (List.mem_cons_of_mem _ hq))
    simp only [List.flatten_cons, List.length_append, List.length_cons, h1, h2, Nat.add_mul, Nat.one_mul]
    omega
theorem even_one {sz : Nat} {ps : List (List Value)} (h : Even sz ps) : ∀ u ∈ ps.flatten, u.oneCell' = true := by
  intro u hu
  obtain ⟨p, hp, hup⟩ := List.mem_flatten.1 hu
  exact (h p hp).2 u hup
theorem even_at {sz : Nat} : ∀ (ps : List (List Value)), Even sz ps → ∀ (j : Nat) (p : List Value), ps[j]? = some p → ∀ (k : Nat) (u : Value), p[k]? = some u → ps.flatten[j * sz + k]? = some u := by
  intro ps
  induction ps with
  | nil => intro _ j p h; simp at h
  | cons q ps ih =>
    intro he j p hj k u hk
    have hq := (he q List.mem_cons_self).1
    rw [List.flatten_cons]
    cases j with
    | zero =>
      simp at hj
      subst hj
      rw [Nat.zero_mul, Nat.zero_add, List.getElem?_append_left (List.getElem?_eq_some_iff.1 hk).1]
      exact hk
    | succ j =>
      rw [List.getElem?_append_right (by rw [hq, Nat.add_mul, Nat.one_mul]; omega)]
      have := ih (fun q hq => he q (List.mem_cons_of_mem _ hq)) j p (by simpa using hj) k u hk
      rw [hq]
      rw [show (j + 1) * sz + k - sz = j * sz + k by rw [Nat.add_mul, Nat.one_mul]; omega]
      exact this
/-- The slice whose head is A holds the elements ps, below block B. -/
def Tab (sz : Nat) (w : World) (B : Nat) (A : Option Addr) (n : Nat) (ps : List (List Value)) : Prop :=
  ps.length = n ∧ Even sz ps ∧ (A = none → n = 0) ∧ ∀ ad, A = some ad → ∀ j p, ps[j]? = some p → ad.block < B ∧ ∀ k u, p[k]? = some u → w.cell? (ad.add (j * sz + k)) = some u
section
variable {sz : Nat} {w w' : World} {B B' n : Nat} {A : Option Addr} {ps : List (List Value)}
theorem Tab.keep (h : Tab sz w B A n ps) (hk : ∀ p : Addr, p.block < B → w'.cell? p = w.cell? p) : Tab sz w' B A n ps :=
  ⟨h.1, h.2.1, h.2.2.1, fun ad ha j p hj => ⟨(h.2.2.2 ad ha j p hj).1, fun k u hu => (hk _ (by rw [add_block]; exact (h.2.2.2 ad ha j p hj).1)).trans ((h.2.2.2 ad ha j p hj).2 k u hu)⟩⟩
theorem Tab.more (h : Tab sz w B A n ps) (hB : B ≤ B') : Tab sz w B' A n ps := ⟨h.1, h.2.1, h.2.2.1, fun ad ha j p hj => ⟨Nat.lt_of_lt_of_le (h.2.2.2 ad ha j p hj).1 hB, (h.2.2.2 ad ha j p hj).2⟩⟩
theorem Tab.below (h : Tab sz w B A n ps) (hb : Below B w w') : Tab sz w' B A n ps := h.keep fun _ hp => hb.cell hp
theorem Tab.drew (h : Tab sz w B A n ps) : Tab sz w.drew B A n ps := h
theorem Tab.alloc (h : Tab sz w B A n ps) (hB : B ≤ w.heap.size) (o : Obj) : Tab sz (w.alloc o) B A n ps := h.keep fun p hp => World.cell?_alloc_lt w o p (by omega)
theorem Tab.setCell (h : Tab sz w B A n ps) {p : Addr} (hB : B ≤ p.block) (u : Value) : Tab sz (w.setCell p u) B A n ps :=
  h.keep fun q hq => World.cell?_setCell_other w p q u (fun e => by subst e; omega)
theorem Tab.at_ (h : Tab sz w B A n ps) {j : Nat} {p : List Value} (hj : ps[j]? = some p) : ∃ ad, A = some ad ∧ ad.block < B ∧ ∀ k u, p[k]? = some u → w.cell? (ad.add (j * sz + k)) = some u := by
  cases A with
  | none =>
    have := h.2.2.1 rfl
    have h1 := (List.getElem?_eq_some_iff.1 hj).1
    have h2 := h.1
    omega
  | some ad => exact ⟨ad, rfl, h.2.2.2 ad rfl j p hj⟩
end
theorem add_up (ad : Addr) (i k : Nat) : ad.add (i + (k + 1)) = { block := (ad.add i).block, off := (ad.add i).off + (k + 1) } := by
  rw [← Nat.add_assoc, add_succ, add_block]
  unfold Addr.add
  split
  · next h => subst h; simp
  · simp [Nat.add_assoc]
/-- A slice of structs that the call itself has made. -/
def OTab (sz : Nat) (w : World) (base : Nat) (e : TypeId) (A : Option Addr) (n c : Nat) (ps : List (List Value)) : Prop := w.ownsRow base e sz (.slice A n c) n ps.flatten ∧ Even sz ps ∧ ps.length = n
section
variable {sz : Nat} {w w' : World} {base : Nat} {e : TypeId} {A : Option Addr} {n c : Nat} {ps : List (List Value)}
theorem OTab.tab (h : OTab sz w base e A n c ps) : Tab sz w w.heap.size A n ps := by
  refine ⟨h.2.2, h.2.1, fun e => ?_, fun ad e j p hj => ?_⟩
  · rcases h.1.2 with ⟨_, h0⟩ | ⟨g, cap, cur, hv, _⟩
    · exact h0
    · subst e; cases hv
  · subst e
    rcases h.1.2 with ⟨hv, _⟩ | ⟨g, cap, cur, hv, _, hg, _⟩
    · cases hv
    · cases hv
      exact ⟨(Array.getElem?_eq_some_iff.1 hg).1, fun k u hu => h.1.cells (g := g) rfl _ _ (even_at ps h.2.1 j p hj k u hu)⟩
theorem OTab.alloc (h : OTab sz w base e A n c ps) (o : Obj) : OTab sz (w.alloc o) base e A n c ps := ⟨World.ownsRow.alloc h.1 o, h.2⟩
theorem OTab.drew (h : OTab sz w base e A n c ps) : OTab sz w.drew base e A n c ps := h
theorem OTab.nil_ (sz : Nat) (w : World) (base : Nat) (e : TypeId) : OTab sz w base e none 0 0 [] := ⟨World.ownsRow_nil w base e sz, fun p hp => (by cases hp), rfl⟩
theorem OTab.kept {row : Option Nat} (h : OTab sz w base e A n c ps) (hg : w.grownBy w' row) (hne : (Value.slice A n c).ownBlock = none ∨ (Value.slice A n c).ownBlock ≠ row) : OTab sz w' base e A n c ps := ⟨World.ownsRow.kept h.1 hg hne, h.2⟩
theorem OTab.form (h : OTab sz w base e A n c ps) : (A = none ∧ n = 0 ∧ c = 0) ∨ ∃ g, A = some ⟨g, 0, none⟩ ∧ base ≤ g ∧ g < w.heap.size ∧ n ≤ c := by
  rcases h.1.2 with ⟨hv, h0⟩ | ⟨g, cap, cur, hv, hb, hg, hn, _⟩
  · cases hv; exact .inl ⟨rfl, rfl, rfl⟩
  · cases hv; exact .inr ⟨g, rfl, hb, (Array.getElem?_eq_some_iff.1 hg).1, hn⟩
theorem OTab.below {B : Nat} (h : OTab sz w base e A n c ps) (hb : Below B w w') (hB : w.heap.size ≤ B) : OTab sz w' base e A n c ps := by
  refine h.kept (row := none) ⟨hb.os, hb.tape, hb.output, hb.size, fun i hi _ => hb.block i (by omega)⟩ ?_
  rcases h.form with ⟨rfl, _⟩ | ⟨g, rfl, _⟩
  · exact .inl rfl
  · exact .inr (by simp [Value.ownBlock])
theorem OTab.up (h : OTab sz w base e A n c ps) : ∀ k, (Value.slice A n c).ownBlock = some k → base ≤ k := fun k hk => (World.ownsRow.lt h.1 k hk).1
theorem OTab.ne_ {g : Nat} {t : TypeId} {cs : Array Value} (h : OTab sz w base e A n c ps) (hb : Blk w g t cs) (hne : e ≠ t) : some g ≠ (Value.slice A n c).ownBlock := by
  rcases h.1.2 with ⟨hv, _⟩ | ⟨g', cap, cur, hv, _, hh, _⟩
  · cases hv; intro e; cases e
  · cases hv
    intro he
    have : g = g' := by simpa [Value.ownBlock] using he
    subst this
    unfold Blk at hb
    rw [hh] at hb
    injection hb with hb
    injection hb with _ ht
    exact hne ht
end
/-- A new block of elements. -/
theorem Tab.blk {sz : Nat} {w : World} {B g n : Nat} {t : TypeId} {cs : Array Value} {ps : List (List Value)} (h : Blk w g t cs) (he : cs = ps.flatten.toArray) (hp : Even sz ps) (hn : ps.length = n) (hB : g < B) : Tab sz w B (some ⟨g, 0, none⟩) n ps := by
  refine ⟨hn, hp, fun e => (by cases e), fun ad e j p hj => ?_⟩
  cases e
  refine ⟨hB, fun k u hu => ?_⟩
  have := h.cell (j * sz + k)
  subst he
  have e2 : (⟨g, 0, none⟩ : Addr).add (j * sz + k) = ⟨g, j * sz + k, none⟩ := by unfold Addr.add; split <;> simp_all
  rw [e2, this]
  simpa using even_at ps hp j p hj k u hu
section
variable {P : Program}
theorem run_app_nilW (w : World) (base : Nat) (t ty e : TypeId) (i : TypeInfo) (sz : Nat) (hsz : 0 < sz) (ht : P.underlying t = some (.slice e)) (hi : P.info? e = some i) (hs : i.size = sz)
    (v : Value) (n : Nat) (xs : List Value) (hown : w.ownsRow base e sz v n xs) (c : Nat) : (Builtin.append_ #[t, t] ty #[v, .slice none 0 c]).run P w = .ok v w := by
  rcases hown.2 with ⟨rfl, rfl⟩ | ⟨g, cap, cur, rfl, _, _, hnc, _⟩
  · simp [Builtin.append_, run_underlying ht, sizeOf, typeInfo, hi, Builtin.lenOf, Builtin.firstCells]
  · simp [Builtin.append_, run_underlying ht, sizeOf, typeInfo, hi, Builtin.lenOf, Builtin.firstCells, hnc, storeCells]
theorem run_appW (w : World) (base : Nat) (t ty e : TypeId) (i : TypeInfo) (z : Value) (sz bytes : Nat) (ht : P.underlying t = some (.slice e)) (hi : P.info? e = some i) (hz : i.zero = some z)
    (hsize : i.size = sz) (hby : i.bytes = bytes) (hzs : z.cells.size = sz) (hsz : 0 < sz) (A : Option Addr) (n c : Nat) (ps : List (List Value)) (hown : OTab sz w base e A n c ps)
    (B : Nat) (X : Option Addr) (m d : Nat) (qs : List (List Value)) (hr : Tab sz w B X m qs)
    (h63 : n + m ≤ maxLen) (hbytes : (n + m) * bytes ≤ 140737488355328) (hbase : base ≤ w.heap.size) :
    ∃ A' c' w', (Builtin.append_ #[t, t] ty #[.slice A n c, .slice X m d]).run P w = .ok (.slice A' (n + m) c') w' ∧ OTab sz w' base e A' (n + m) c' (ps ++ qs) ∧ w.grownBy w' (Value.slice A n c).ownBlock := by
  cases X with
  | none =>
    obtain rfl : m = 0 := hr.2.2.1 rfl
    obtain rfl : qs = [] := List.eq_nil_of_length_eq_zero hr.1
    exact ⟨A, c, w, run_app_nilW w base t ty e i sz hsz ht hi hsize _ n _ hown.1 d, by simpa using hown, World.grownBy.refl w _⟩
  | some ad =>
    obtain ⟨v', w', h1, h2, h3, _, _⟩ := run_append_own_at (P := P) w base t ty e i z sz bytes ht hi hz hsize hby hzs hsz _ n _ hown.1 ad m d qs.flatten (by rw [even_len hr.2.1, hr.1])
      (fun j u hu => by
        have hl := even_len hr.2.1
        have hjl := (List.getElem?_eq_some_iff.1 hu).1
        rw [hl] at hjl
        have hq : j / sz < qs.length := (Nat.div_lt_iff_lt_mul hsz).2 hjl
        obtain ⟨p, hp⟩ : ∃ p, qs[j / sz]? = some p := ⟨_, List.getElem?_eq_getElem hq⟩
        have hpm : p ∈ qs := List.mem_of_getElem? hp
        have hk : j % sz < p.length := by rw [(hr.2.1 p hpm).1]; exact Nat.mod_lt _ hsz
        have e1 : j / sz * sz + j % sz = j := by rw [Nat.mul_comm]; exact Nat.div_add_mod j sz
        have h4 := even_at qs hr.2.1 _ p hp (j % sz) _ (List.getElem?_eq_getElem hk)
        rw [e1, hu] at h4
        have h5 := (hr.2.2.2 ad rfl _ p hp).2 (j % sz) _ (List.getElem?_eq_getElem hk)
        rw [e1] at h5
        rw [h5, ← h4])
      (even_one hr.2.1) h63 hbytes hbase
    rw [← List.flatten_append] at h2
    have hev := hown.2.1.app hr.2.1
    have hlen : (ps ++ qs).length = n + m := by rw [List.length_append, hown.2.2, hr.1]
    rcases h2.2 with ⟨hv, hn⟩ | ⟨g, cap, cur, hv, _⟩
    · subst hv
      refine ⟨none, 0, w', ?_, ⟨?_, hev, hlen⟩, h3⟩
      · rw [hn]; exact h1
      · rw [hn] at h2 ⊢; exact h2
    · subst hv
      exact ⟨_, cap, w', h1, ⟨h2, hev, hlen⟩, h3⟩
theorem wp_appW {o : Oper} {a : Act} {w : World} {K : Act → World → Prop} {Q : Exit → Act → World → Prop} (s x : Operand) (t : TypeId)
    (ho : o.op = .call { callee := .builtin .append, args := #[s, x], argTypes := #[t, t] })
    (base : Nat) (e : TypeId) (i : TypeInfo) (z : Value) (sz bytes : Nat) (ht : P.underlying t = some (.slice e)) (hi : P.info? e = some i) (hz : i.zero = some z)
    (hsize : i.size = sz) (hby : i.bytes = bytes) (hzs : z.cells.size = sz) (hsz : 0 < sz) (A : Option Addr) (n c : Nat) (ps : List (List Value)) (hs : a.eval s = .slice A n c) (hown : OTab sz w base e A n c ps)
    (B : Nat) (X : Option Addr) (m d : Nat) (qs : List (List Value)) (hx : a.eval x = .slice X m d) (hr : Tab sz w B X m qs)
    (h63 : n + m ≤ maxLen) (hbytes : (n + m) * bytes ≤ 140737488355328) (hbase : base ≤ w.heap.size)
    (h : ∀ A' c' w', OTab sz w' base e A' (n + m) c' (ps ++ qs) → w.grownBy w' (Value.slice A n c).ownBlock → K (a.put o.dst (.slice A' (n + m) c')) w') : o.wp P a w K Q := by
  obtain ⟨A', c', w', hrun, h2, h3⟩ := run_appW (P := P) w base t o.type e i z sz bytes ht hi hz hsize hby hzs hsz A n c ps hown B X m d qs hr h63 hbytes hbase
  unfold Oper.wp execOp
  simp only [ho, resolve, invoke, builtin, Sem.run_bind, Sem.run_pure, Result.andThen_ok, List.map_toArray, List.map_cons, List.map_nil, hs, hx, hrun]
  exact h A' c' w' h2 h3
theorem wpList_appW {ops : Array Oper} {rest : List Oper} {o : Oper} {a : Act} {w : World} {Q : Exit → Act → World → Prop} (hgd : o.guard = none) (s x : Operand) (t : TypeId)
    (ho : o.op = .call { callee := .builtin .append, args := #[s, x], argTypes := #[t, t] })
    (base : Nat) (e : TypeId) (i : TypeInfo) (z : Value) (sz bytes : Nat) (ht : P.underlying t = some (.slice e)) (hi : P.info? e = some i) (hz : i.zero = some z)
    (hsize : i.size = sz) (hby : i.bytes = bytes) (hzs : z.cells.size = sz) (hsz : 0 < sz) (A : Option Addr) (n c : Nat) (ps : List (List Value)) (hs : a.eval s = .slice A n c) (hown : OTab sz w base e A n c ps)
    (B : Nat) (X : Option Addr) (m d : Nat) (qs : List (List Value)) (hx : a.eval x = .slice X m d) (hr : Tab sz w B X m qs)
    (h63 : n + m ≤ maxLen) (hbytes : (n + m) * bytes ≤ 140737488355328) (hbase : base ≤ w.heap.size)
    (h : ∀ A' c' w', OTab sz w' base e A' (n + m) c' (ps ++ qs) → w.grownBy w' (Value.slice A n c).ownBlock → wpList P ops Q rest (a.put o.dst (.slice A' (n + m) c')) w') : wpList P ops Q (o :: rest) a w :=
  wpList_plain hgd fun _ hK => wp_appW s x t ho base e i z sz bytes ht hi hz hsize hby hzs hsz A n c ps hs hown B X m d qs hx hr h63 hbytes hbase fun A' c' w' h2 h3 => hK _ _ (h A' c' w' h2 h3)
end
theorem otab_below {sz : Nat} {w0 w w' : World} {base : Nat} {e : TypeId} {A : Option Addr} {n c : Nat} {ps : List (List Value)} (hb : Below base w0 w) (h : OTab sz w base e A n c ps) (hg : w.grownBy w' (Value.slice A n c).ownBlock) (hbase : base ≤ w.heap.size) : Below base w0 w' :=
  hb.grown hg hbase (fun k hk => h.up k hk)
end Go.Proofs.YtldoocndhfgjhaaGreat
