/- Laws for copy, make and string conversions over slices that read as lists of integers. -/
import Derived.Test.YtldoocndhfgjhaaGreatOwn
import Derived.Laws.BytesArg
import Derived.Laws.CopyOwn
import Derived.Laws.MakeOwn
import Derived.Lib.SliceRun
import Derived.Deep.RegionHeld3
namespace Go.Proofs.YtldoocndhfgjhaaGreat
open Go.RowKit

section
variable {P : Program}
/-- 'string(b)' where b reads as the bytes xs. -/
theorem run_str {w : World} {B : Nat} {A : Option Addr} {n : Nat} {xs : List Int} (hr : Row .u8 w B A n xs) (src dst e : TypeId) (c : Nat) (hs : P.underlying src = some (.slice e)) (he : P.underlying e = some (.int .u8)) (hd : P.underlying dst = some .string) :
    (convert src dst (.slice A n c)).run P w = .ok (.string (strOfNums xs)) w := by
  cases A with
  | none =>
    obtain rfl : n = 0 := hr.2.1 rfl
    obtain rfl : xs = [] := List.eq_nil_of_length_eq_zero hr.1
    exact run_convert_bytes_nil w src e hs he 0 c dst hd
  | some ad =>
    have hl : (loadCells ad n).run P w = .ok (xs.map (Value.int .u8)).toArray w := by
      have := run_loadCells_list (P := P) w ad (xs.map (Value.int .u8)) (fun j v hj => by
        have hjl : j < xs.length := by
          rcases Nat.lt_or_ge j xs.length with h | h
          · exact h
          · simp [List.getElem?_eq_none (show (xs.map (Value.int .u8)).length ≤ j by simpa using h)] at hj
        rw [(hr.2.2 ad rfl j (by rw [← hr.1]; exact hjl)).2]
        simpa [hjl] using hj)
      simpa [hr.1] using this
    rw [run_convert_bytes_string w src dst e _ n c hs he hd, run_bytesToString w _ n c xs hl, foldl_push_bytes]
    simp [strOfNums, ByteArray.empty, ByteArray.emptyWithCapacity]
    rfl

theorem grown_setRow (w : World) (g : Nat) (cs : Array Value) : w.grownBy (w.setRow g cs) (some g) := by
  refine ⟨rfl, rfl, rfl, by simp [World.setRow], fun i hi hne => ?_⟩
  have h : g ≠ i := fun e => hne (by rw [e])
  simp only [World.setRow]
  rw [Array.getElem?_modify, if_neg h]

theorem wp_copyrow {k : IntKind} {o : Oper} {a : Act} {w : World} {K : Act → World → Prop} {Q : Exit → Act → World → Prop} (d s : Operand) (dT sT : TypeId)
    (ho : o.op = .call { callee := .builtin .copy, args := #[d, s], argTypes := #[dT, sT] }) (elem : TypeId) (hu : P.underlying dT = some (.slice elem)) (hsz : (P.info? elem).map (·.size) = some 1)
    (dp X : Option Addr) (dLen dCap m sCap : Nat) (hd : a.eval d = .slice dp dLen dCap) (hs : a.eval s = .slice X m sCap)
    (B : Nat) (xs : List Int) (hr : Row k w B X m xs)
    (g off : Nat) (cur : List Value) (t : TypeId) (hg : Blk w g t cur.toArray) (hpos : 0 < min m dLen → dp = some ⟨g, off, none⟩) (hfit : off + min m dLen ≤ cur.length)
    (h : ∀ w', Blk w' g t (splice cur off ((xs.take (min m dLen)).map (Value.int k))).toArray → w.grownBy w' (some g) → K (a.put o.dst (.int .i64 (min m dLen : Nat))) w') : o.wp P a w K Q := by
  have hlen : ((xs.take (min m dLen)).map (Value.int k)).length = Nat.min m dLen := by
    simp [hr.1]
  by_cases h0 : min m dLen = 0
  · have hrun := run_copy_none (P := P) w dT sT o.type elem dp X dLen dCap m sCap hu hsz h0
    have := h w (by simpa [splice, h0] using hg) (World.grownBy.refl w _)
    rw [h0] at this
    unfold Oper.wp execOp
    simp only [ho, resolve, invoke, builtin, Sem.run_bind, Sem.run_pure, Result.andThen_ok, List.map_toArray, List.map_cons, List.map_nil, hd, hs, hrun]
    exact this
  · obtain rfl := hpos (by omega)
    obtain ⟨ad, rfl, _⟩ := hr.at_ (j := 0) (by omega)
    have hrun := run_copy_row (P := P) w dT sT o.type elem g off dLen dCap ad m sCap cur.toArray t ((xs.take (min m dLen)).map (Value.int k)) hu hsz hg hlen
      (fun j v hj => by
        have hjl : j < min m dLen := by
          rcases Nat.lt_or_ge j (min m dLen) with h | h
          · exact h
          · rw [List.getElem?_eq_none (by rw [hlen]; exact h)] at hj; cases hj
        have hx : j < xs.length := by rw [hr.1]; omega
        rw [(hr.2.2 ad rfl j (by omega)).2]
        simp [hjl, hx] at hj ⊢
        exact hj)
      (by rw [hlen]; simpa using hfit)
      (fun u hu => by obtain ⟨x, _, rfl⟩ := List.mem_map.1 hu; rfl)
    have hW : (w.setRow g (cur.toArray.toList.take off ++ ((xs.take (min m dLen)).map (Value.int k)) ++ cur.toArray.toList.drop (off + ((xs.take (min m dLen)).map (Value.int k)).length)).toArray) = w.setRow g (splice cur off ((xs.take (min m dLen)).map (Value.int k))).toArray := by
      simp [splice]
    have hN : ((xs.take (min m dLen)).map (Value.int k)).length = min m dLen := hlen
    have hrun2 : (Builtin.copy_ #[dT, sT] o.type #[.slice (some ⟨g, off, none⟩) dLen dCap, .slice (some ad) m sCap]).run P w = .ok (.int .i64 (min m dLen : Nat)) (w.setRow g (splice cur off ((xs.take (min m dLen)).map (Value.int k))).toArray) := by
      rw [hrun, hW, hN]; rfl
    have := h _ (by
      show _ = _
      have hlt := hg.lt
      simp only [World.setRow]
      rw [Array.getElem?_modify]
      simp [show w.heap[g]? = _ from hg]) (grown_setRow w g (splice cur off ((xs.take (min m dLen)).map (Value.int k))).toArray)
    unfold Oper.wp execOp
    simp only [ho, resolve, invoke, builtin, Sem.run_bind, Sem.run_pure, Result.andThen_ok, List.map_toArray, List.map_cons, List.map_nil, hd, hs, hrun2]
    exact this

theorem wpList_copyrow {k : IntKind} {ops : Array Oper} {rest : List Oper} {o : Oper} {a : Act} {w : World} {Q : Exit → Act → World → Prop} (hgd : o.guard = none) (d s : Operand) (dT sT : TypeId)
    (ho : o.op = .call { callee := .builtin .copy, args := #[d, s], argTypes := #[dT, sT] }) (elem : TypeId) (hu : P.underlying dT = some (.slice elem)) (hsz : (P.info? elem).map (·.size) = some 1)
    (dp X : Option Addr) (dLen dCap m sCap : Nat) (hd : a.eval d = .slice dp dLen dCap) (hs : a.eval s = .slice X m sCap)
    (B : Nat) (xs : List Int) (hr : Row k w B X m xs)
    (g off : Nat) (cur : List Value) (t : TypeId) (hg : Blk w g t cur.toArray) (N : Nat) (hN : min m dLen = N) (hpos : 0 < N → dp = some ⟨g, off, none⟩) (hfit : off + N ≤ cur.length)
    (out : List Value) (hout : splice cur off ((xs.take N).map (Value.int k)) = out)
    (h : ∀ w', Blk w' g t out.toArray → w.grownBy w' (some g) → wpList P ops Q rest (a.put o.dst (.int .i64 (N : Nat))) w') : wpList P ops Q (o :: rest) a w := by
  subst hN
  subst hout
  exact wpList_plain hgd fun _ hK => wp_copyrow d s dT sT ho elem hu hsz dp X dLen dCap m sCap hd hs B xs hr g off cur t hg hpos hfit fun w' h2 h3 => hK _ _ (h w' h2 h3)

/-- 'make([]T, n)' of integers: a new block of zeros. -/
theorem wpList_makerow {k : IntKind} {ops : Array Oper} {rest : List Oper} {o : Oper} {a : Act} {w : World} {Q : Exit → Act → World → Prop} (hgd : o.guard = none) (l c : Operand) (t : TypeId) (hop : o.op = Op.makeSlice t l c)
    (e : TypeId) (i : TypeInfo) (h1 : P.underlying t = some (.slice e)) (h2 : P.info? e = some i) (h3 : i.zero = some (.int k 0)) (h4 : i.size = 1) (bytes : Nat) (h5 : i.bytes = bytes) (n : Nat) (N : Int) (hl : a.eval l = .int .i64 N) (hc : a.eval c = .int .i64 N) (hN : N = (n : Int))
    (b2 : bytes * n ≤ 281474976710656) (b3 : n ≤ 9223372036854775807)
    (h : ∀ w', Blk w' w.heap.size e (List.replicate n (Value.int k 0)).toArray → w.grownBy w' none → w'.heap.size = w.heap.size + 1 → wpList P ops Q rest (a.put o.dst (.slice (some ⟨w.heap.size, 0, none⟩) n n)) w') : wpList P ops Q (o :: rest) a w := by
  subst hN
  subst h5
  refine wpList_plain hgd fun K hK => ?_
  have hrun := run_make (P := P) w t e i (.int k 0) h1 h2 h3 .i64 .i64 n n (by omega) (by omega) (by rw [← Int.natCast_mul]; omega) (by omega)
  unfold Oper.wp
  simp [execOp, hop, hl, hc, hrun, Result.andThen]
  refine hK _ _ (h _ ?_ (World.grownBy_alloc w _ none) (by simp))
  have : madeCells (Value.int k 0).cells (n * i.size) = (List.replicate n (Value.int k 0)).toArray := by
    rw [h4, Nat.mul_one]
    apply Array.ext
    · simp [size_madeCells]
    · intro j hj _
      simp [madeCells, Value.cells, Nat.mod_one]
  rw [this]
  exact Blk.new w e _
end
theorem eql_nil {P : Program} (t e : TypeId) (a : Addr) (n c : Nat) (h : P.underlying t = some (.slice e)) (w : World) : (binOp .eql t (.slice (some a) n c) (.slice none 0 0)).run P w = .ok (.bool false) w := Lib.run_eql_slice_nil w t e (some a) n c 0 0 h
/-- Two stores into one block leave the cells of others. -/
theorem far2 {w : World} {g i j : Nat} {u v : Value} {p : Addr} {x : Option Value} (h : w.cell? p = x) (hp : p.block ≠ g) : ((w.setCell ⟨g, i, none⟩ u).setCell ⟨g, j, none⟩ v).cell? p = x := by
  rw [World.cell?_setCell_other _ _ _ _ (fun e => hp (by rw [← e])), World.cell?_setCell_other _ _ _ _ (fun e => hp (by rw [← e]))]; exact h
/-- A block of integers, read from its head. -/
theorem Blk.row {k : IntKind} {w : World} {g : Nat} {t : TypeId} {xs : List Int} {B : Nat} (h : Blk w g t (xs.map (Value.int k)).toArray) (hB : g < B) : Row k w B (some ⟨g, 0, none⟩) xs.length xs :=
  Row.blk h rfl hB
end Go.Proofs.YtldoocndhfgjhaaGreat
namespace Go.Proofs.YtldoocndhfgjhaaGreat
open Go.RowKit

theorem wpAnyH_mono {P : Program} {md : Region.Mode} {ops : Array Oper} {Q : Exit → Act → World → Prop} {S S' : World → Prop} (hSS : ∀ w, S' w → S w) :
    ∀ (fuel : Nat) (listed : Array Bool) (a : Act) (w : World), wpAnyH P md ops Q S' fuel listed a w → wpAnyH P md ops Q S fuel listed a w
  | 0, _, _, _, h => h
  | fuel + 1, _, _, _, h => ⟨h.1, fun i hi => wpOp_mono (fun a' w' h' => ⟨hSS _ h'.1, wpAnyH_mono hSS fuel _ a' w' h'.2⟩) (h.2 i hi)⟩

/-- The condition grows. -/
theorem wpAnyH_more {P : Program} {md : Region.Mode} {ops : Array Oper} {Q : Exit → Act → World → Prop} {S : World → Prop} {fuel : Nat} {listed : Array Bool} {a : Act} {w : World} (T : World → Prop) (hT : T w) (hS : S w)
    (h : (S w ∧ T w) → wpAnyH P md ops Q (fun w' => S w' ∧ T w') fuel listed a w) : wpAnyH P md ops Q S fuel listed a w :=
  wpAnyH_mono (fun _ h => h.1) fuel listed a w (h ⟨hS, hT⟩)

section
variable {P : Program} {md : Region.Mode} {ops : Array Oper} {Q : Exit → Act → World → Prop} {S : World → Prop}
/-- One operation is taken: all that is asked of it is found by the way. -/
theorem tk (i : Nat) {oi : Oper} {v : Value} {fuel : Nat} {listed L : Array Bool} {a a' : Act} {w : World} (hS : S w) (h : wpAnyH P md ops Q S fuel L a' w)
    (hi : ops[i]? = some oi := by simp only [List.getElem?_toArray, List.getElem?_cons_zero, List.getElem?_cons_succ]; rfl)
    (hs : Region.noSelect ops = true := by kernel_rfl) (hf : Region.free md ops listed i = true := by kernel_rfl) (hr : (Region.ready md ops listed).contains i = true := by kernel_rfl)
    (hy : YieldsIf P ops S oi v a := by refine Or.inl ⟨by kernel_rfl, ?_⟩; intro w hSw; (try dsimp only at hSw); go_simp; all_goals (with_reducible rfl))
    (hL : listed.setIfInBounds i true = L := by (try simp only [List.setIfInBounds_toArray, List.set_cons_zero, List.set_cons_succ]); with_reducible rfl)
    (ha : a.put oi.dst v = a' := by (try simp only [Act.put, List.setIfInBounds_toArray, List.set_cons_zero, List.set_cons_succ]); with_reducible rfl)
    (hQ : ∀ c a w, Q (.panic c) (a.put oi.dst v) w → Q (.panic c) a w := by exact fun _ _ _ h => h) : wpAnyH P md ops Q S (fuel + 1) listed a w := by
  subst hL
  subst ha
  exact wpAnyH_take hi hs hf hr hQ hy hS h
/-- The one operation that is ready (a call, a store ..). -/
theorem rd1 (i : Nat) {o : Oper} {fuel : Nat} {listed L : Array Bool} {a : Act} {w : World}
    (h : ∀ K' : Act → World → Prop, Shut (∀ a w, S w → (S w → wpAnyH P md ops Q S fuel L a w) → K' a w) → if Region.wanted o (yielded ops a.tmps) = true then Oper.wp P o a w K' Q else K' (a.put o.dst undef) w)
    (hr : Region.ready md ops listed = [i] := by kernel_rfl)
    (ho : ops[i]? = some o := by simp only [List.getElem?_toArray, List.getElem?_cons_zero, List.getElem?_cons_succ]; rfl)
    (hL : listed.setIfInBounds i true = L := by (try simp only [List.setIfInBounds_toArray, List.set_cons_zero, List.set_cons_succ]); with_reducible rfl) : wpAnyH P md ops Q S (fuel + 1) listed a w := by
  subst hL
  exact wpAnyH_ready hr (by simp) (AllReadyH.cons ho h AllReadyH.nil)
/-- Two are ready: whichever comes up. -/
theorem rd2 (i j : Nat) {o o' : Oper} {fuel : Nat} {listed L L' : Array Bool} {a : Act} {w : World}
    (h : ∀ K' : Act → World → Prop, Shut (∀ a w, S w → (S w → wpAnyH P md ops Q S fuel L a w) → K' a w) → if Region.wanted o (yielded ops a.tmps) = true then Oper.wp P o a w K' Q else K' (a.put o.dst undef) w)
    (h' : ∀ K' : Act → World → Prop, Shut (∀ a w, S w → (S w → wpAnyH P md ops Q S fuel L' a w) → K' a w) → if Region.wanted o' (yielded ops a.tmps) = true then Oper.wp P o' a w K' Q else K' (a.put o'.dst undef) w)
    (hr : Region.ready md ops listed = [i, j] := by kernel_rfl)
    (ho : ops[i]? = some o := by simp only [List.getElem?_toArray, List.getElem?_cons_zero, List.getElem?_cons_succ]; rfl)
    (ho' : ops[j]? = some o' := by simp only [List.getElem?_toArray, List.getElem?_cons_zero, List.getElem?_cons_succ]; rfl)
    (hL : listed.setIfInBounds i true = L := by (try simp only [List.setIfInBounds_toArray, List.set_cons_zero, List.set_cons_succ]); with_reducible rfl)
    (hL' : listed.setIfInBounds j true = L' := by (try simp only [List.setIfInBounds_toArray, List.set_cons_zero, List.set_cons_succ]); with_reducible rfl) : wpAnyH P md ops Q S (fuel + 1) listed a w := by
  subst hL
  subst hL'
  exact wpAnyH_ready hr (by simp) (AllReadyH.cons ho h (AllReadyH.cons ho' h' AllReadyH.nil))
/-- Three are ready. -/
theorem rd3 (i j k : Nat) {o o' o'' : Oper} {fuel : Nat} {listed L L' L'' : Array Bool} {a : Act} {w : World}
    (h : ∀ K' : Act → World → Prop, Shut (∀ a w, S w → (S w → wpAnyH P md ops Q S fuel L a w) → K' a w) → if Region.wanted o (yielded ops a.tmps) = true then Oper.wp P o a w K' Q else K' (a.put o.dst undef) w)
    (h' : ∀ K' : Act → World → Prop, Shut (∀ a w, S w → (S w → wpAnyH P md ops Q S fuel L' a w) → K' a w) → if Region.wanted o' (yielded ops a.tmps) = true then Oper.wp P o' a w K' Q else K' (a.put o'.dst undef) w)
    (h'' : ∀ K' : Act → World → Prop, Shut (∀ a w, S w → (S w → wpAnyH P md ops Q S fuel L'' a w) → K' a w) → if Region.wanted o'' (yielded ops a.tmps) = true then Oper.wp P o'' a w K' Q else K' (a.put o''.dst undef) w)
    (hr : Region.ready md ops listed = [i, j, k] := by kernel_rfl)
    (ho : ops[i]? = some o := by simp only [List.getElem?_toArray, List.getElem?_cons_zero, List.getElem?_cons_succ]; rfl)
    (ho' : ops[j]? = some o' := by simp only [List.getElem?_toArray, List.getElem?_cons_zero, List.getElem?_cons_succ]; rfl)
    (ho'' : ops[k]? = some o'' := by simp only [List.getElem?_toArray, List.getElem?_cons_zero, List.getElem?_cons_succ]; rfl)
    (hL : listed.setIfInBounds i true = L := by (try simp only [List.setIfInBounds_toArray, List.set_cons_zero, List.set_cons_succ]); with_reducible rfl)
    (hL' : listed.setIfInBounds j true = L' := by (try simp only [List.setIfInBounds_toArray, List.set_cons_zero, List.set_cons_succ]); with_reducible rfl)
    (hL'' : listed.setIfInBounds k true = L'' := by (try simp only [List.setIfInBounds_toArray, List.set_cons_zero, List.set_cons_succ]); with_reducible rfl) : wpAnyH P md ops Q S (fuel + 1) listed a w := by
  subst hL
  subst hL'
  subst hL''
  exact wpAnyH_ready hr (by simp) (AllReadyH.cons ho h (AllReadyH.cons ho' h' (AllReadyH.cons ho'' h'' AllReadyH.nil)))
end
end Go.Proofs.YtldoocndhfgjhaaGreat
