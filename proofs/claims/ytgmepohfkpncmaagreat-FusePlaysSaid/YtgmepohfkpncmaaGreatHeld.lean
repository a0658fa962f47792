/- Laws for copy, make and string conversions over slices that read as lists of integers. -/
import Derived.Test.YtgmepohfkpncmaaGreatAid
import Derived.Laws.BytesArg
import Derived.Laws.CopyOwn
import Derived.Laws.MakeOwn
import Derived.Lib.SliceRun
import Derived.Deep.RegionHeld3
namespace Go.Proofs.YtgmepohfkpncmaaGreat
open Go.RowKit

section
variable {P : Program}
theorem grown_setRow (w : World) (g : Nat) (cs : Array Value) : w.grownBy (w.setRow g cs) (some g) := by
  refine ⟨rfl, rfl, rfl, by simp [World.setRow], fun i hi hne => ?_⟩
  have h : g ≠ i := fun e => hne (by rw [e])
  simp only [World.setRow]
  rw [Array.getElem?_modify, if_neg h]

theorem wp_copyrow {k : IntKind} {o : Oper} {a : Act} {w : World} {K : Act → World → Prop} {Q : Exit → Act → World → Prop} (d s : Operand) (dT sT : TypeId)
    (ho : o.op = .call { callee := .builtin .copy, args := #[d, s], argTypes := #[dT, sT] }) (elem : TypeId) (hu : P.underlying dT = some (.slice elem)) (hsz : (P.info? elem).map (·.size) = some 1)
    (dp X : Option Addr) (dLen dCap m sCap : Nat) (hd : a.eval d = .slice dp dLen dCap) (hs : a.eval s = .slice X m sCap)
    (B : Nat) (xs : List Int) (hr : Row k w B X m xs)
    (g off : Nat) (cur : List Value) (t : TypeId) (hg : Blk w g t cur.toArray) (hpos : 0 < min m dLen → dp = some ⟨g, off, none⟩) (hfit : off + min m dLen ≤ cur.length)
    (h : ∀ w', Blk w' g t (splice cur off ((xs.take (min m dLen)).map (Value.int k))).toArray → w.grownBy w' (some g) → K (a.put o.dst (.int .i64 (min m dLen : Nat))) w') : o.wp P a w K Q := by
  have hlen : ((xs.take (min m dLen)).map (Value.int k)).length = Nat.min m dLen := by
    simp [hr.1]
  by_cases h0 : min m dLen = 0
  · have hrun := run_copy_none (P := P) w dT sT o.type elem dp X dLen dCap m sCap hu hsz h0
    have := h w (by simpa [splice, h0] using hg) (World.grownBy.refl w _)
    rw [h0] at this
    unfold Oper.wp execOp
    simp only [ho, resolve, invoke, builtin, Sem.run_bind, Sem.run_pure, Result.andThen_ok, List.map_toArray, List.map_cons, List.map_nil, hd, hs, hrun]
    exact this
  · obtain rfl := hpos (by omega)
    obtain ⟨ad, rfl, _⟩ := hr.at_ (j := 0) (by omega)
    have hrun := run_copy_row (P := P) w dT sT o.type elem g off dLen dCap ad m sCap cur.toArray t ((xs.take (min m dLen)).map (Value.int k)) hu hsz hg hlen
      (fun j v hj => by
        have hjl : j < min m dLen := by
          rcases Nat.lt_or_ge j (min m dLen) with h | h
          · exact h
          · rw [List.getElem?_eq_none (by rw [hlen]; exact h)] at hj; cases hj
        have hx : j < xs.length := by rw [hr.1]; omega
        rw [(hr.2.2 ad rfl j (by omega)).2]
        simp [hjl, hx] at hj ⊢
        exact hj)
      (by rw [hlen]; simpa using hfit)
      (fun u hu => by obtain ⟨x, _, rfl⟩ := List.mem_map.1 hu; rfl)
    have hW : (w.setRow g (cur.toArray.toList.take off ++ ((xs.take (min m dLen)).map (Value.int k)) ++ cur.toArray.toList.drop (off + ((xs.take (min m dLen)).map (Value.int k)).length)).toArray) = w.setRow g (splice cur off ((xs.take (min m dLen)).map (Value.int k))).toArray := by
      simp [splice]
    have hN : ((xs.take (min m dLen)).map (Value.int k)).length = min m dLen := hlen
    have hrun2 : (Builtin.copy_ #[dT, sT] o.type #[.slice (some ⟨g, off, none⟩) dLen dCap, .slice (some ad) m sCap]).run P w = .ok (.int .i64 (min m dLen : Nat)) (w.setRow g (splice cur off ((xs.take (min m dLen)).map (Value.int k))).toArray) := by
      rw [hrun, hW, hN]; rfl
    have := h _ (by
      show _ = _
      have hlt := hg.lt
      simp only [World.setRow]
      rw [Array.getElem?_modify]
      simp [show w.heap[g]? = _ from hg]) (grown_setRow w g (splice cur off ((xs.take (min m dLen)).map (Value.int k))).toArray)
    unfold Oper.wp execOp
    simp only [ho, resolve, invoke, builtin, Sem.run_bind, Sem.run_pure, Result.andThen_ok, List.map_toArray, List.map_cons, List.map_nil, hd, hs, hrun2]
    exact this

end
/-- A block of integers, read from its head. -/
theorem Blk.row {k : IntKind} {w : World} {g : Nat} {t : TypeId} {xs : List Int} {B : Nat} (h : Blk w g t (xs.map (Value.int k)).toArray) (hB : g < B) : Row k w B (some ⟨g, 0, none⟩) xs.length xs :=
  Row.blk h rfl hB
end Go.Proofs.YtgmepohfkpncmaaGreat
namespace Go.Proofs.YtgmepohfkpncmaaGreat
open Go.RowKit

section
variable {P : Program} {md : Region.Mode} {ops : Array Oper} {Q : Exit → Act → World → Prop} {S : World → Prop}
/-- One operation is taken: all that is asked of it is found by the way. -/
theorem tk (i : Nat) {oi : Oper} {v : Value} {fuel : Nat} {listed L : Array Bool} {a a' : Act} {w : World} (hS : S w) (h : wpAnyH P md ops Q S fuel L a' w)
    (hi : ops[i]? = some oi := by simp only [List.getElem?_toArray, List.getElem?_cons_zero, List.getElem?_cons_succ]; rfl)
    (hs : Region.noSelect ops = true := by kernel_rfl) (hf : Region.free md ops listed i = true := by kernel_rfl) (hr : (Region.ready md ops listed).contains i = true := by kernel_rfl)
    (hy : YieldsIf P ops S oi v a := by refine Or.inl ⟨by kernel_rfl, ?_⟩; intro w hSw; (try dsimp only at hSw); go_simp; all_goals (with_reducible rfl))
    (hL : listed.setIfInBounds i true = L := by (try simp only [List.setIfInBounds_toArray, List.set_cons_zero, List.set_cons_succ]); with_reducible rfl)
    (ha : a.put oi.dst v = a' := by (try simp only [Act.put, List.setIfInBounds_toArray, List.set_cons_zero, List.set_cons_succ]); with_reducible rfl)
    (hQ : ∀ c a w, Q (.panic c) (a.put oi.dst v) w → Q (.panic c) a w := by exact fun _ _ _ h => h) : wpAnyH P md ops Q S (fuel + 1) listed a w := by
  subst hL
  subst ha
  exact wpAnyH_take hi hs hf hr hQ hy hS h
/-- The one operation that is ready (a call, a store ..). -/
theorem rd1 (i : Nat) {o : Oper} {fuel : Nat} {listed L : Array Bool} {a : Act} {w : World}
    (h : ∀ K' : Act → World → Prop, Shut (∀ a w, S w → (S w → wpAnyH P md ops Q S fuel L a w) → K' a w) → if Region.wanted o (yielded ops a.tmps) = true then Oper.wp P o a w K' Q else K' (a.put o.dst undef) w)
    (hr : Region.ready md ops listed = [i] := by kernel_rfl)
    (ho : ops[i]? = some o := by simp only [List.getElem?_toArray, List.getElem?_cons_zero, List.getElem?_cons_succ]; rfl)
    (hL : listed.setIfInBounds i true = L := by (try simp only [List.setIfInBounds_toArray, List.set_cons_zero, List.set_cons_succ]); with_reducible rfl) : wpAnyH P md ops Q S (fuel + 1) listed a w := by
  subst hL
  exact wpAnyH_ready hr (by simp) (AllReadyH.cons ho h AllReadyH.nil)
/-- Two are ready: whichever comes up. -/
theorem rd2 (i j : Nat) {o o' : Oper} {fuel : Nat} {listed L L' : Array Bool} {a : Act} {w : World}
    (h : ∀ K' : Act → World → Prop, Shut (∀ a w, S w → (S w → wpAnyH P md ops Q S fuel L a w) → K' a w) → if Region.wanted o (yielded ops a.tmps) = true then Oper.wp P o a w K' Q else K' (a.put o.dst undef) w)
    (h' : ∀ K' : Act → World → Prop, Shut (∀ a w, S w → (S w → wpAnyH P md ops Q S fuel L' a w) → K' a w) → if Region.wanted o' (yielded ops a.tmps) = true then Oper.wp P o' a w K' Q else K' (a.put o'.dst undef) w)
    (hr : Region.ready md ops listed = [i, j] := by kernel_rfl)
    (ho : ops[i]? = some o := by simp only [List.getElem?_toArray, List.getElem?_cons_zero, List.getElem?_cons_succ]; rfl)
    (ho' : ops[j]? = some o' := by simp only [List.getElem?_toArray, List.getElem?_cons_zero, List.getElem?_cons_succ]; rfl)
    (hL : listed.setIfInBounds i true = L := by (try simp only [List.setIfInBounds_toArray, List.set_cons_zero, List.set_cons_succ]); with_reducible rfl)
    (hL' : listed.setIfInBounds j true = L' := by (try simp only [List.setIfInBounds_toArray, List.set_cons_zero, List.set_cons_succ]); with_reducible rfl) : wpAnyH P md ops Q S (fuel + 1) listed a w := by
  subst hL
  subst hL'
  exact wpAnyH_ready hr (by simp) (AllReadyH.cons ho h (AllReadyH.cons ho' h' AllReadyH.nil))
/-- Three are ready. -/
theorem rd3 (i j k : Nat) {o o' o'' : Oper} {fuel : Nat} {listed L L' L'' : Array Bool} {a : Act} {w : World}
    (h : ∀ K' : Act → World → Prop, Shut (∀ a w, S w → (S w → wpAnyH P md ops Q S fuel L a w) → K' a w) → if Region.wanted o (yielded ops a.tmps) = true then Oper.wp P o a w K' Q else K' (a.put o.dst undef) w)
    (h' : ∀ K' : Act → World → Prop, Shut (∀ a w, S w → (S w → wpAnyH P md ops Q S fuel L' a w) → K' a w) → if Region.wanted o' (yielded ops a.tmps) = true then Oper.wp P o' a w K' Q else K' (a.put o'.dst undef) w)
    (h'' : ∀ K' : Act → World → Prop, Shut (∀ a w, S w → (S w → wpAnyH P md ops Q S fuel L'' a w) → K' a w) → if Region.wanted o'' (yielded ops a.tmps) = true then Oper.wp P o'' a w K' Q else K' (a.put o''.dst undef) w)
    (hr : Region.ready md ops listed = [i, j, k] := by kernel_rfl)
    (ho : ops[i]? = some o := by simp only [List.getElem?_toArray, List.getElem?_cons_zero, List.getElem?_cons_succ]; rfl)
    (ho' : ops[j]? = some o' := by simp only [List.getElem?_toArray, List.getElem?_cons_zero, List.getElem?_cons_succ]; rfl)
    (ho'' : ops[k]? = some o'' := by simp only [List.getElem?_toArray, List.getElem?_cons_zero, List.getElem?_cons_succ]; rfl)
    (hL : listed.setIfInBounds i true = L := by (try simp only [List.setIfInBounds_toArray, List.set_cons_zero, List.set_cons_succ]); with_reducible rfl)
    (hL' : listed.setIfInBounds j true = L' := by (try simp only [List.setIfInBounds_toArray, List.set_cons_zero, List.set_cons_succ]); with_reducible rfl)
    (hL'' : listed.setIfInBounds k true = L'' := by (try simp only [List.setIfInBounds_toArray, List.set_cons_zero, List.set_cons_succ]); with_reducible rfl) : wpAnyH P md ops Q S (fuel + 1) listed a w := by
  subst hL
  subst hL'
  subst hL''
  exact wpAnyH_ready hr (by simp) (AllReadyH.cons ho h (AllReadyH.cons ho' h' (AllReadyH.cons ho'' h'' AllReadyH.nil)))
end
end Go.Proofs.YtgmepohfkpncmaaGreat
