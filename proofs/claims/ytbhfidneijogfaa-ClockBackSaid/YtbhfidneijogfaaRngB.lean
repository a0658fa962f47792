/- A range over a function that writes a cell of its own between two rounds. -/
import Derived.Test.YtbhfidneijogfaaRng
namespace Go.Proofs.Ytbhfidneijogfaa
open Go.RowKit
set_option linter.unusedVariables false
set_option linter.unusedSimpArgs false

/-- The two blocks of a loop's books: the rounds' deferred calls at D, the record r at L. -/
structure Books (D L : Nat) (r : Loop) (W : World) : Prop where
  loop : W.heap[L]? = some (.loop r)
  calls : W.heap[D]? = some (.deferred (some []))
theorem Books.grown {D L : Nat} {r : Loop} {W W' : World} {row : Option Nat} (h : Books D L r W) (hg : W.grownBy W' row) (h1 : some L ≠ row) (h2 : some D ≠ row) : Books D L r W' :=
  ⟨(hg.block L (Array.getElem?_eq_some_iff.1 h.loop).1 h1).trans h.loop, (hg.block D (Array.getElem?_eq_some_iff.1 h.calls).1 h2).trans h.calls⟩
theorem Books.put {D L : Nat} {r : Loop} {W : World} (h : Books D L r W) (hne : D ≠ L) (r' : Loop) : Books D L r' (W.putObj L (.loop r')) :=
  ⟨World.putObj_heap_same (Array.getElem?_eq_some_iff.1 h.loop).1, (World.putObj_heap_other hne).trans h.calls⟩
theorem Books.others {D L : Nat} {r : Loop} {W W' : World} (h : Books D L r W) (k : KeepsOthers W W') : Books D L r W' := ⟨k.same _ _ h.loop rfl, k.same _ _ h.calls rfl⟩
theorem Books.set_ {D L : Nat} {r : Loop} {W : World} (h : Books D L r W) {p : Addr} (h1 : p.block ≠ L) (h2 : p.block ≠ D) (v : Value) : Books D L r (W.setCell p v) :=
  ⟨(Below.heap_setCell W p v L (fun e => h1 e.symm)).trans h.loop, (Below.heap_setCell W p v D (fun e => h2 e.symm)).trans h.calls⟩
theorem walk_row {W A : World} {row : Option Nat} (h : ∀ r, row = some r → W.heap.size ≤ r ∧ ∃ o : Obj, A.heap[r]? = some o ∧ o.isWalk = true) {D L : Nat} {r : Loop} (hb : Books D L r A) : some L ≠ row ∧ some D ≠ row := by
  refine ⟨fun e => ?_, fun e => ?_⟩
  · obtain ⟨_, o, ho, hw⟩ := h L e.symm
    rw [hb.loop] at ho; cases ho; cases hw
  · obtain ⟨_, o, ho, hw⟩ := h D e.symm
    rw [hb.calls] at ho; cases ho; cases hw

/-- What is asked of an iterator that keeps its state in block b: whatever the loop's invariants are, if they do not speak of b. -/
def Seq1 {α : Type} (P : Program) (gf : Nat) (lb : Array Value) (encs : α → Array Value) (b N : Nat) (S Sp : List α → Prop) (w : World) : Prop :=
  ∀ (l : Nat) (J Jx : List α → World → Prop) (W : World), W.heap[b]? = w.heap[b]? → w.heap.size ≤ W.heap.size → AbidesFrom W.heap.size J → (∀ pre V v, J pre V → J pre (V.setCell ⟨b, 0, none⟩ v)) →
    (∀ pre x V, J pre V → pre.length < N → YieldAt Fence.wide 1 P l (encs x) V fun e V' => (e = .returned (.bool true) ∧ J (pre ++ [x]) V' ∧ KeepsB b V V') ∨ (e = .returned (.bool false) ∧ Jx (pre ++ [x]) V')) →
    J [] W → CallsIn Fence.wide 2 P gf (#[.func (.yield l) #[] #[]] ++ lb) W fun e W' => (∃ v, e = .returned v) ∧ ((∃ xs, S xs ∧ J xs W') ∨ (∃ pre, Sp pre ∧ Jx pre W'))

theorem range_own {α : Type} {P : Program} {g : Operand} {ps : Array Tmp} {assign body : Code} {Q : Exit → Act → World → Prop} {a : Act} {w : World}
    {gf : Nat} {lb : Array Value} (hg : a.eval g = .func (.func gf) #[] lb) (eg : ∀ args w, (callFunc gf args).run P w = .ok (.enter gf args) w)
    {encs : α → Array Value} {b N : Nat} {S Sp : List α → Prop} (hb : b < w.heap.size) (hseq : Seq1 P gf lb encs b N S Sp w) (hps : ∀ x, (encs x).size = ps.size)
    (I : List α → World → Prop) (Ix : Code → List α → World → Prop) (hI : OwnFrom w.heap.size I) (hIx : ∀ c, OwnFrom w.heap.size (Ix c)) (hIb : ∀ pre V v, I pre V → I pre (V.setCell ⟨b, 0, none⟩ v)) (h0 : I [] w) (a₁ : α → Act)
    (hassign : ∀ (l : Nat) (x : α) (W : World) (K : Act → World → Prop), K (a₁ x) W →
      assign.wpIn (Fence.wide.inRound l) 1 P (Exit.then K (fun _ _ _ => False)) { tmps := (ps.zip (encs x)).foldl (fun t (p, v) => t.setIfInBounds p v) a.tmps, defers := [] } W)
    (hbody : ∀ (l : Nat) (pre : List α) (x : α) (W : World), I pre W → pre.length < N → body.wpIn (Fence.wide.inRound l) 1 P (ownPostK (KeepsB b) I Ix (pre ++ [x]) W) (a₁ x) W)
    (hdone : ∀ (D : Nat) (xs : List α) (W : World), w.heap.size ≤ D → S xs → I xs W → W.heap[D]? = some (.deferred (some [])) → Q .normal { a with defers := { target := .collected D, args := #[] } :: a.defers } W)
    (hstop : ∀ (D : Nat) (c : Code) (pre : List α) (W : World), w.heap.size ≤ D → Sp pre → Ix c pre W → W.heap[D]? = some (.deferred (some [])) → c.wp P Q { a with defers := { target := .collected D, args := #[] } :: a.defers } W) :
    (Code.rangeFunc g ps assign body).wp P Q a w := by
  refine wpIn_wide.1 (wpIn_rangeFunc (F := Fence.wide) (n := 3) (fun fn hfn => ?_))
  obtain ⟨R, hR⟩ : ∃ R : LoopState → Option Code → Loop, R = fun st pe => { state := st, pending := pe, fn, tmps := a.tmps, params := ps, assign, body, defers := w.heap.size } := ⟨_, rfl⟩
  have hD : w.heap.size ≠ w.heap.size + 1 := by omega
  have hW0 : Books w.heap.size (w.heap.size + 1) (R .ready none) ((w.alloc (.deferred (some []))).alloc (.loop (R .ready none))) := by
    refine ⟨?_, (Below.heap_alloc _ _ _ (by simp)).trans (World.alloc_heap_new w _)⟩
    have := World.alloc_heap_new (w.alloc (.deferred (some []))) (.loop (R .ready none))
    rwa [World.size_alloc] at this
  have hI1 : I [] ((w.alloc (.deferred (some []))).alloc (.loop (R .ready none))) := hI.alloc _ (hI.alloc _ h0)
  have hbW : ((w.alloc (.deferred (some []))).alloc (.loop (R .ready none))).heap[b]? = w.heap[b]? := (Below.heap_alloc _ _ _ (by simp; omega)).trans (Below.heap_alloc w _ b hb)
  have hsz : w.heap.size + 2 ≤ ((w.alloc (.deferred (some []))).alloc (.loop (R .ready none))).heap.size := by simp
  refine ⟨w.heap.size + 1, [{ target := .collected w.heap.size, args := #[] }], (w.alloc (.deferred (some []))).alloc (.loop (R .ready none)), { target := .fn (.func gf) lb, args := #[.func (.yield (w.heap.size + 1)) #[] #[]] }, (w.alloc (.deferred (some []))).alloc (.loop (R .ready none)), gf,
    #[.func (.yield (w.heap.size + 1)) #[] #[]] ++ lb, (w.alloc (.deferred (some []))).alloc (.loop (R .ready none)), by rw [hR]; exact run_enterLoop_outer _ _ _ _ _, by simp only [resolve, hg]; simp [go_sem], fun _ _ => trivial, by simp [invoke, go_sem, eg], fun _ => by omega, ?_⟩
  generalize (w.alloc (.deferred (some []))).alloc (.loop (R .ready none)) = W1 at *
  have keepB : ∀ (V : World) (o : Obj), KeepsB b V (V.putObj (w.heap.size + 1) o) := fun V o => World.putObj_heap_other (by omega)
  refine (hseq (w.heap.size + 1) (fun pre W => I pre W ∧ Books w.heap.size (w.heap.size + 1) (R .ready none) W) (fun pre W => ∃ c, Ix c pre W ∧ Books w.heap.size (w.heap.size + 1) (R .done (some c)) W) W1 hbW (by omega) ?abide ?cell ?round ⟨hI1, hW0⟩).mono ?behind
  case abide =>
    intro s A B row hs hg' hr
    have hne := walk_row hr hs.2
    exact ⟨hI s A B row hs.1 hg' (fun r e => ⟨Nat.le_trans (by omega) (hr r e).1, by obtain ⟨_, o, ho, hw⟩ := hr r e; exact ⟨o, ho, Obj.not_cells_of_walk hw⟩⟩), hs.2.grown hg' hne.1 hne.2⟩
  case cell => exact fun pre V v hs => ⟨hIb pre V v hs.1, hs.2.set_ (by dsimp only; omega) (by dsimp only; omega) v⟩
  case round =>
    rintro pre x W ⟨hi, hk⟩ hlen
    have hy := run_yield (P := P) (args := encs x) hk.loop (by rw [hR]; exact hps x)
    rw [hR] at hy
    refine ⟨fn, _, assign, body, hy, roundIn_of_wpIn hfn (hassign _ x W _ ⟨_, run_beginRound hk.loop (by rw [hR]), ?_⟩)⟩
    have hk2 := hk.put hD { R .ready none with state := .busy }
    refine wpIn_mono (hbody _ pre x _ (hI.putObj _ hi (by omega) hk.loop rfl) hlen) ?_
    have ends : ∀ (j : Option Code) (V : World), KeepsOthers (W.putObj (w.heap.size + 1) (.loop { R .ready none with state := .busy })) V →
        (Instr.endRound (w.heap.size + 1) j).run P V = .ok (.bool j.isNone) (V.putObj (w.heap.size + 1) (.loop (R (if j.isNone then .ready else .done) j))) ∧ V.heap[w.heap.size + 1]? = some (.loop { R .ready none with state := .busy }) ∧
        Books w.heap.size (w.heap.size + 1) (R (if j.isNone then .ready else .done) j) (V.putObj (w.heap.size + 1) (.loop (R (if j.isNone then .ready else .done) j))) := fun j V ko => by
      have h5 := hk2.others ko
      have h6 := run_endRound (P := P) j h5.loop
      exact ⟨by rw [hR] at h6 ⊢; exact h6, h5.loop, h5.put hD _⟩
    intro e a3 V hp
    cases e with
    | normal =>
      obtain ⟨r1, r2, r3⟩ := ends none V hp.1
      exact ⟨_, _, r1, .inl ⟨rfl, ⟨hI.putObj _ hp.2.2 (by omega) r2 rfl, r3⟩, (keepB V _).trans (hp.2.1.trans (keepB W _))⟩⟩
    | ret =>
      obtain ⟨r1, r2, r3⟩ := ends (some .ret) V hp.1
      exact ⟨_, _, r1, .inr ⟨rfl, .ret, (hIx _).putObj _ hp.2 (by omega) r2 rfl, r3⟩⟩
    | exit id =>
      obtain ⟨r1, r2, r3⟩ := ends (some (.exit id)) V hp.1
      exact ⟨_, _, r1, .inr ⟨rfl, .exit id, (hIx _).putObj _ hp.2 (by omega) r2 rfl, r3⟩⟩
    | goto t =>
      obtain ⟨r1, r2, r3⟩ := ends (some (.goto t)) V hp.1
      exact ⟨_, _, r1, .inr ⟨rfl, .goto t, (hIx _).putObj _ hp.2 (by omega) r2 rfl, r3⟩⟩
    | panic ch => exact hp.elim
    | outgrown => exact hp.elim
  case behind =>
    rintro e W2 ⟨⟨v, rfl⟩, ⟨xs, hS, hi, hk⟩ | ⟨pre, hSp, c, hi, hk⟩⟩
    · have h5 := run_endLoop (P := P) hk.loop (by rw [hR]; simp)
      have hpn : (R .ready none).pending = none := by rw [hR]
      rw [hpn] at h5
      refine ⟨none, _, h5, hdone _ xs _ (Nat.le_refl _) hS (hI.putObj _ hi (by omega) hk.loop rfl) (hk.put hD _).calls⟩
    · have h5 := run_endLoop (P := P) hk.loop (by rw [hR]; simp)
      have hpn : (R .done (some c)).pending = some c := by rw [hR]
      rw [hpn] at h5
      refine ⟨some c, _, h5, wpIn_wide.2 (hstop _ c pre _ (Nat.le_refl _) hSp ((hIx c).putObj _ hi (by omega) hk.loop rfl) (hk.put hD _).calls)⟩
end Go.Proofs.Ytbhfidneijogfaa
