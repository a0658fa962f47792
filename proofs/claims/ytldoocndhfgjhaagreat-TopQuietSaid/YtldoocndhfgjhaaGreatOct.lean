/- A range over a function that writes a cell of its own between two rounds, and reads another one. -/
import Derived.Test.YtldoocndhfgjhaaGreatLate
import Derived.Test.YtldoocndhfgjhaaGreatStab
namespace Go.Proofs.YtldoocndhfgjhaaGreat
open Go.RowKit
set_option linter.unusedVariables false
set_option linter.unusedSimpArgs false

/-- The two blocks of a loop's books: the rounds' deferred calls at D, the record r at L. -/
structure Books (D L : Nat) (r : Loop) (W : World) : Prop where
  loop : W.heap[L]? = some (.loop r)
  calls : W.heap[D]? = some (.deferred (some []))
theorem Books.grown {D L : Nat} {r : Loop} {W W' : World} {row : Option Nat} (h : Books D L r W) (hg : W.grownBy W' row) (h1 : some L ≠ row) (h2 : some D ≠ row) : Books D L r W' :=
  ⟨(hg.block L (Array.getElem?_eq_some_iff.1 h.loop).1 h1).trans h.loop, (hg.block D (Array.getElem?_eq_some_iff.1 h.calls).1 h2).trans h.calls⟩
theorem Books.put {D L : Nat} {r : Loop} {W : World} (h : Books D L r W) (hne : D ≠ L) (r' : Loop) : Books D L r' (W.putObj L (.loop r')) :=
  ⟨World.putObj_heap_same (Array.getElem?_eq_some_iff.1 h.loop).1, (World.putObj_heap_other hne).trans h.calls⟩
theorem Books.others {D L : Nat} {r : Loop} {W W' : World} (h : Books D L r W) (k : KeepsOthers W W') : Books D L r W' := ⟨k.same _ _ h.loop rfl, k.same _ _ h.calls rfl⟩
theorem Books.set_ {D L : Nat} {r : Loop} {W : World} (h : Books D L r W) {p : Addr} (h1 : p.block ≠ L) (h2 : p.block ≠ D) (v : Value) : Books D L r (W.setCell p v) :=
  ⟨(Below.heap_setCell W p v L (fun e => h1 e.symm)).trans h.loop, (Below.heap_setCell W p v D (fun e => h2 e.symm)).trans h.calls⟩
theorem walk_row {W A : World} {row : Option Nat} (h : ∀ r, row = some r → W.heap.size ≤ r ∧ ∃ o : Obj, A.heap[r]? = some o ∧ o.isWalk = true) {D L : Nat} {r : Loop} (hb : Books D L r A) : some L ≠ row ∧ some D ≠ row := by
  refine ⟨fun e => ?_, fun e => ?_⟩
  · obtain ⟨_, o, ho, hw⟩ := h L e.symm
    rw [hb.loop] at ho; cases ho; cases hw
  · obtain ⟨_, o, ho, hw⟩ := h D e.symm
    rw [hb.calls] at ho; cases ho; cases hw

/-- What is asked of an iterator that keeps its state in block b: whatever the loop's invariants are, if they do not speak of b. -/
def Seq2 {α : Type} (P : Program) (gf : Nat) (lb : Array Value) (encs : α → Array Value) (b b2 N : Nat) (S Sp : List α → Prop) (w : World) : Prop :=
  ∀ (l : Nat) (J Jx : List α → World → Prop) (W : World), W.heap[b]? = w.heap[b]? → W.heap[b2]? = w.heap[b2]? → w.heap.size ≤ W.heap.size → AbidesFrom W.heap.size J → (∀ pre V v, J pre V → J pre (V.setCell ⟨b, 0, none⟩ v)) →
    (∀ pre x V, J pre V → pre.length < N → YieldAt Fence.wide 1 P l (encs x) V fun e V' => (e = .returned (.bool true) ∧ J (pre ++ [x]) V' ∧ KeepsB b V V') ∨ (e = .returned (.bool false) ∧ Jx (pre ++ [x]) V')) →
    J [] W → CallsIn Fence.wide 2 P gf (#[.func (.yield l) #[] #[]] ++ lb) W fun e W' => (∃ v, e = .returned v) ∧ ((∃ xs, S xs ∧ J xs W') ∨ (∃ pre, Sp pre ∧ Jx pre W'))

theorem range_own2 {α : Type} {P : Program} {g : Operand} {ps : Array Tmp} {assign body : Code} {Q : Exit → Act → World → Prop} {a : Act} {w : World}
    {gf : Nat} {lb : Array Value} (hg : a.eval g = .func (.func gf) #[] lb) (eg : ∀ args w, (callFunc gf args).run P w = .ok (.enter gf args) w)
    {encs : α → Array Value} {b b2 N : Nat} {S Sp : List α → Prop} (hb : b < w.heap.size) (hb2 : b2 < w.heap.size) (hseq : Seq2 P gf lb encs b b2 N S Sp w) (hps : ∀ x, (encs x).size = ps.size)
    (I : List α → World → Prop) (Ix : Code → List α → World → Prop) (hI : OwnFrom w.heap.size I) (hIx : ∀ c, OwnFrom w.heap.size (Ix c)) (hIb : ∀ pre V v, I pre V → I pre (V.setCell ⟨b, 0, none⟩ v)) (h0 : I [] w) (a₁ : α → Act)
    (hassign : ∀ (l : Nat) (x : α) (W : World) (K : Act → World → Prop), K (a₁ x) W →
      assign.wpIn (Fence.wide.inRound l) 1 P (Exit.then K (fun _ _ _ => False)) { tmps := (ps.zip (encs x)).foldl (fun t (p, v) => t.setIfInBounds p v) a.tmps, defers := [] } W)
    (hbody : ∀ (l : Nat) (pre : List α) (x : α) (W : World), I pre W → pre.length < N → body.wpIn (Fence.wide.inRound l) 1 P (ownPostK (KeepsB b) I Ix (pre ++ [x]) W) (a₁ x) W)
    (hdone : ∀ (D : Nat) (xs : List α) (W : World), w.heap.size ≤ D → S xs → I xs W → W.heap[D]? = some (.deferred (some [])) → Q .normal { a with defers := { target := .collected D, args := #[] } :: a.defers } W)
    (hstop : ∀ (D : Nat) (c : Code) (pre : List α) (W : World), w.heap.size ≤ D → Sp pre → Ix c pre W → W.heap[D]? = some (.deferred (some [])) → c.wp P Q { a with defers := { target := .collected D, args := #[] } :: a.defers } W) :
    (Code.rangeFunc g ps assign body).wp P Q a w := by
  refine wpIn_wide.1 (wpIn_rangeFunc (F := Fence.wide) (n := 3) (fun fn hfn => ?_))
  obtain ⟨R, hR⟩ : ∃ R : LoopState → Option Code → Loop, R = fun st pe => { state := st, pending := pe, fn, tmps := a.tmps, params := ps, assign, body, defers := w.heap.size } := ⟨_, rfl⟩
  have hD : w.heap.size ≠ w.heap.size + 1 := by omega
  have hW0 : Books w.heap.size (w.heap.size + 1) (R .ready none) ((w.alloc (.deferred (some []))).alloc (.loop (R .ready none))) := by
    refine ⟨?_, (Below.heap_alloc _ _ _ (by simp)).trans (World.alloc_heap_new w _)⟩
    have := World.alloc_heap_new (w.alloc (.deferred (some []))) (.loop (R .ready none))
    rwa [World.size_alloc] at this
  have hI1 : I [] ((w.alloc (.deferred (some []))).alloc (.loop (R .ready none))) := hI.alloc _ (hI.alloc _ h0)
  have hbW : ((w.alloc (.deferred (some []))).alloc (.loop (R .ready none))).heap[b]? = w.heap[b]? := (Below.heap_alloc _ _ _ (by simp; omega)).trans (Below.heap_alloc w _ b hb)
  have hbW2 : ((w.alloc (.deferred (some []))).alloc (.loop (R .ready none))).heap[b2]? = w.heap[b2]? := (Below.heap_alloc _ _ _ (by simp; omega)).trans (Below.heap_alloc w _ b2 hb2)
  have hsz : w.heap.size + 2 ≤ ((w.alloc (.deferred (some []))).alloc (.loop (R .ready none))).heap.size := by simp
  refine ⟨w.heap.size + 1, [{ target := .collected w.heap.size, args := #[] }], (w.alloc (.deferred (some []))).alloc (.loop (R .ready none)), { target := .fn (.func gf) lb, args := #[.func (.yield (w.heap.size + 1)) #[] #[]] }, (w.alloc (.deferred (some []))).alloc (.loop (R .ready none)), gf,
    #[.func (.yield (w.heap.size + 1)) #[] #[]] ++ lb, (w.alloc (.deferred (some []))).alloc (.loop (R .ready none)), by rw [hR]; exact run_enterLoop_outer _ _ _ _ _, by simp only [resolve, hg]; simp [go_sem], fun _ _ => trivial, by simp [invoke, go_sem, eg], fun _ => by omega, ?_⟩
  generalize (w.alloc (.deferred (some []))).alloc (.loop (R .ready none)) = W1 at *
  have keepB : ∀ (V : World) (o : Obj), KeepsB b V (V.putObj (w.heap.size + 1) o) := fun V o => World.putObj_heap_other (by omega)
  refine (hseq (w.heap.size + 1) (fun pre W => I pre W ∧ Books w.heap.size (w.heap.size + 1) (R .ready none) W) (fun pre W => ∃ c, Ix c pre W ∧ Books w.heap.size (w.heap.size + 1) (R .done (some c)) W) W1 hbW hbW2 (by omega) ?abide ?cell ?round ⟨hI1, hW0⟩).mono ?behind
  case abide =>
    intro s A B row hs hg' hr
    have hne := walk_row hr hs.2
    exact ⟨hI s A B row hs.1 hg' (fun r e => ⟨Nat.le_trans (by omega) (hr r e).1, by obtain ⟨_, o, ho, hw⟩ := hr r e; exact ⟨o, ho, Obj.not_cells_of_walk hw⟩⟩), hs.2.grown hg' hne.1 hne.2⟩
  case cell => exact fun pre V v hs => ⟨hIb pre V v hs.1, hs.2.set_ (by dsimp only; omega) (by dsimp only; omega) v⟩
  case round =>
    rintro pre x W ⟨hi, hk⟩ hlen
    have hy := run_yield (P := P) (args := encs x) hk.loop (by rw [hR]; exact hps x)
    rw [hR] at hy
    refine ⟨fn, _, assign, body, hy, roundIn_of_wpIn hfn (hassign _ x W _ ⟨_, run_beginRound hk.loop (by rw [hR]), ?_⟩)⟩
    have hk2 := hk.put hD { R .ready none with state := .busy }
    refine wpIn_mono (hbody _ pre x _ (hI.putObj _ hi (by omega) hk.loop rfl) hlen) ?_
    have ends : ∀ (j : Option Code) (V : World), KeepsOthers (W.putObj (w.heap.size + 1) (.loop { R .ready none with state := .busy })) V →
        (Instr.endRound (w.heap.size + 1) j).run P V = .ok (.bool j.isNone) (V.putObj (w.heap.size + 1) (.loop (R (if j.isNone then .ready else .done) j))) ∧ V.heap[w.heap.size + 1]? = some (.loop { R .ready none with state := .busy }) ∧
        Books w.heap.size (w.heap.size + 1) (R (if j.isNone then .ready else .done) j) (V.putObj (w.heap.size + 1) (.loop (R (if j.isNone then .ready else .done) j))) := fun j V ko => by
      have h5 := hk2.others ko
      have h6 := run_endRound (P := P) j h5.loop
      exact ⟨by rw [hR] at h6 ⊢; exact h6, h5.loop, h5.put hD _⟩
    intro e a3 V hp
    cases e with
    | normal =>
      obtain ⟨r1, r2, r3⟩ := ends none V hp.1
      exact ⟨_, _, r1, .inl ⟨rfl, ⟨hI.putObj _ hp.2.2 (by omega) r2 rfl, r3⟩, (keepB V _).trans (hp.2.1.trans (keepB W _))⟩⟩
    | ret =>
      obtain ⟨r1, r2, r3⟩ := ends (some .ret) V hp.1
      exact ⟨_, _, r1, .inr ⟨rfl, .ret, (hIx _).putObj _ hp.2 (by omega) r2 rfl, r3⟩⟩
    | exit id =>
      obtain ⟨r1, r2, r3⟩ := ends (some (.exit id)) V hp.1
      exact ⟨_, _, r1, .inr ⟨rfl, .exit id, (hIx _).putObj _ hp.2 (by omega) r2 rfl, r3⟩⟩
    | goto t =>
      obtain ⟨r1, r2, r3⟩ := ends (some (.goto t)) V hp.1
      exact ⟨_, _, r1, .inr ⟨rfl, .goto t, (hIx _).putObj _ hp.2 (by omega) r2 rfl, r3⟩⟩
    | panic ch => exact hp.elim
    | outgrown => exact hp.elim
  case behind =>
    rintro e W2 ⟨⟨v, rfl⟩, ⟨xs, hS, hi, hk⟩ | ⟨pre, hSp, c, hi, hk⟩⟩
    · have h5 := run_endLoop (P := P) hk.loop (by rw [hR]; simp)
      have hpn : (R .ready none).pending = none := by rw [hR]
      rw [hpn] at h5
      refine ⟨none, _, h5, hdone _ xs _ (Nat.le_refl _) hS (hI.putObj _ hi (by omega) hk.loop rfl) (hk.put hD _).calls⟩
    · have h5 := run_endLoop (P := P) hk.loop (by rw [hR]; simp)
      have hpn : (R .done (some c)).pending = some c := by rw [hR]
      rw [hpn] at h5
      refine ⟨some c, _, h5, wpIn_wide.2 (hstop _ c pre _ (Nat.le_refl _) hSp ((hIx c).putObj _ hi (by omega) hk.loop rfl) (hk.put hD _).calls)⟩
theorem Own.fromR {k : IntKind} {A B : World} {base : Nat} {e : TypeId} {X : Option Addr} {n c : Nat} {ys : List Int} {row : Option Nat} {m : Nat} (h : Own k A base e X n c ys) (hg : A.grownBy B row) (hr : ∀ r, row = some r → m ≤ r ∧ ∃ o : Obj, A.heap[r]? = some o ∧ o.isCells = false) : Own k B base e X n c ys := by
  refine h.kept hg ?_
  rcases h.2 with ⟨hv, _⟩ | ⟨g, cap, cur, hv, _, hh, _⟩
  · left; rw [hv]; rfl
  · right
    rw [hv]
    intro e2
    obtain ⟨_, o, ho, hc⟩ := hr g e2.symm
    rw [hh] at ho
    cases ho
    cases hc
end Go.Proofs.YtldoocndhfgjhaaGreat
namespace Go.Proofs.YtldoocndhfgjhaaGreat
open Go.RowKit
set_option linter.unusedVariables false
set_option linter.unusedSimpArgs false
attribute [local go_sem] Oper.semAt_some

def leP (k : Nat) (u : Int) : List Int := (List.range k).map fun (j : Nat) => u / 256 ^ j % 256
theorem leP_len (k : Nat) (u : Int) : (leP k u).length = k := by simp [leP]
theorem leP_take (k : Nat) (u : Int) (j : Nat) (h : j < k) : (leP k u).take (j + 1) = (leP k u).take j ++ [u / 256 ^ j % 256] := by
  unfold leP
  rw [List.take_succ_eq_append_getElem (by simpa using h)]
  simp
theorem leP_in (k : Nat) (u : Int) : ∀ x ∈ leP k u, U8 x := by
  intro x hx
  unfold leP at hx
  obtain ⟨j, _, rfl⟩ := List.mem_map.1 hx
  unfold U8; omega
def encB (x : Int) : Array Value := #[.int .u8 x]
theorem div_le_pos (u : Int) (j : Nat) (h : 0 ≤ u ∧ u ≤ 18446744073709551615) : 0 ≤ u / 256 ^ j ∧ u / 256 ^ j ≤ 18446744073709551615 := by
  have hp : (0 : Int) < 256 ^ j := Int.pow_pos (by omega)
  refine ⟨Int.ediv_nonneg h.1 (Int.le_of_lt hp), Int.le_trans (Int.ediv_le_self _ h.1) h.2⟩
set_option maxHeartbeats 2000000 in
theorem bytes_in (l b b2 n : Nat) (u : Int) (hn : n ≤ 8) (hu : 0 ≤ u ∧ u ≤ 18446744073709551615) (J Jx : List Int → World → Prop) (W : World) (hB : Blk W b 244 #[.int .u64 u]) (hB2 : Blk W b2 3 #[.int .i64 n]) (hA : AbidesFrom W.heap.size J) (hC : ∀ pre V v, J pre V → J pre (V.setCell ⟨b, 0, none⟩ v))
    (hY : ∀ pre x V, J pre V → pre.length < n → YieldAt Fence.wide 1 Tryz.prog l (encB x) V fun e V' => (e = .returned (.bool true) ∧ J (pre ++ [x]) V' ∧ KeepsB b V V') ∨ (e = .returned (.bool false) ∧ Jx (pre ++ [x]) V'))
    (h0 : J [] W) :
    CallsIn Fence.wide 2 Tryz.prog 212 #[.func (.yield l) #[] #[], .pointer (some ⟨b2, 0, none⟩), .pointer (some ⟨b, 0, none⟩)] W fun e W' => (∃ v, e = .returned v) ∧
      ((∃ ys, ys = leP n u ∧ J ys W') ∨ (∃ pre, (∃ k, k ≤ n ∧ pre = (leP n u).take k) ∧ Jx pre W')) := by
  have d0 : W.cell? ⟨b2, 0, none⟩ = some (.int .i64 n) := hB2.cell 0
  refine callsIn_of_wp Tryz.func212 rfl trivial ?_ rfl
  simp only [Tryz.ntmps212, List.size_toArray, List.length_cons, List.length_nil, Nat.reduceAdd, Nat.reduceSub, Array.replicate_succ, Array.replicate_zero, List.push_toArray, List.append_toArray, List.nil_append, List.cons_append]
  gi_wp2
  gi_loopw [5] (fun i wr => ∃ j : Nat, j ≤ n ∧ i = .int .i64 j ∧ J ((leP n u).take j) wr ∧ Blk wr b 244 #[.int .u64 (u / 256 ^ j)])
    (fun i _ => n - (intOf i).toNat)
  case atStart => exact ⟨0, Nat.zero_le _, rfl, by simpa using h0, by simpa using hB⟩
  case round =>
    clear d0 hB hB2
    obtain ⟨j, hj, rfl, hJ, hBr⟩ := hrel
    by_cases hlt : j < n
    · have c0 : wr.cell? ⟨b, 0, none⟩ = some (.int .u64 (u / 256 ^ j)) := hBr.cell 0
      have hx := div_le_pos u j hu
      have HT := hid (leP_take n u j hlt)
      have HLN : Hid (((leP n u).take j).length = j) := hid (by rw [List.length_take, leP_len]; omega)
      have HD : Hid (u / 256 ^ j / 256 = u / 256 ^ (j + 1)) := hid (by rw [Int.pow_succ]; exact Int.ediv_ediv_of_nonneg (Int.le_of_lt (Int.pow_pos (by omega))))
      have m1 : n - (j + 1) < n - j := by omega
      generalize u / 256 ^ j = X at *
      obtain ⟨fn, tmps, assign, body, hy, hR⟩ := hY _ (X % 256) wr hJ (by rw [HLN.out]; exact hlt)
      simp only [encB] at hy
      gi_wp2_with fail
      refine hR.mono ?_
      rintro e V3 (⟨rfl, hJ3, hk3⟩ | ⟨rfl, hJx3⟩)
      · have hB3 : Blk V3 b 244 #[.int .u64 X] := hk3.trans hBr
        have c3 : V3.cell? ⟨b, 0, none⟩ = some (.int .u64 X) := hB3.cell 0
        have z3 := hB3.frozen 0
        gi_wp2_with fail
        have td := hB3.set_ 0 (.int .u64 (X / 256))
        have tj := hC _ _ (.int .u64 (X / 256)) hJ3
        go_roundw
        case rel => exact ⟨j + 1, by omega, by go_num, by rw [HT.out]; exact tj, by rw [← HD.out]; exact td⟩
        case measure => simpa [intOf] using m1
      · gi_wp2_with fail
        refine bodyPost_ret (results_none rfl _ _ _) rfl ?_
        exact ⟨⟨_, rfl⟩, .inr ⟨_, ⟨j + 1, by omega, by rw [HT.out]⟩, hJx3⟩⟩
    · obtain rfl : j = n := by omega
      have hl : (leP j u).take j = leP j u := List.take_of_length_le (by rw [leP_len]; exact Nat.le_refl _)
      rw [hl] at hJ
      clear hl
      gi_wp2_with fail
      go_end0
      exact ⟨⟨_, rfl⟩, .inl ⟨_, rfl, hJ⟩⟩
theorem bytes_seq (b b2 n : Nat) (u : Int) (hn : n ≤ 8) (hu : 0 ≤ u ∧ u ≤ 18446744073709551615) (w : World) (hB : Blk w b 244 #[.int .u64 u]) (hB2 : Blk w b2 3 #[.int .i64 n]) :
    Seq2 Tryz.prog 212 #[.pointer (some ⟨b2, 0, none⟩), .pointer (some ⟨b, 0, none⟩)] encB b b2 n (fun ys => ys = leP n u) (fun pre => ∃ k, k ≤ n ∧ pre = (leP n u).take k) w :=
  fun l J Jx W hW hW2 _ hA hC hY h0 => bytes_in l b b2 n u hn hu J Jx W (hW.trans hB) (hW2.trans hB2) hA hC hY h0
theorem o_bytes (n : Nat) (u : Int) (w : World) :
    Calls Tryz.prog 184 #[.int .i64 n, .int .u64 u] w fun e w' => e = .returned (.func (.func 212) #[] #[.pointer (some ⟨w.heap.size, 0, none⟩), .pointer (some ⟨w.heap.size + 1, 0, none⟩)]) ∧ w' = (w.alloc (.cells #[.int .i64 n] 3)).alloc (.cells #[.int .u64 u] 244) := by
  have hmf : ∀ (fn : Fn) (first cap : Array Value) (w : World), (Instr.makeFunc fn first cap).run Tryz.prog w = .ok (.func fn first cap) w := fun _ _ _ _ => rfl
  go_enter Tryz.func184, Tryz.ntmps184
  go_wp2
  go_ret
  exact ⟨rfl, rfl⟩
end Go.Proofs.YtldoocndhfgjhaaGreat
