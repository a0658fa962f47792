/- Chapter 05: sums of 16 bits, as the program makes them. -/
import Derived.Test.YtldoocndhfgjhaaGreatOwn
import Derived.Laws.BitsAllLaws
import Derived.Deep.CutRange
import Derived.Test.YtldoocndhfgjhaaGreatWide
import Derived.Laws.CopyOwn
import Derived.Laws.MakeOwn
namespace Go.Proofs.YtldoocndhfgjhaaGreat
open Go.RowKit
set_option linter.unusedVariables false
set_option linter.unusedSimpArgs false

theorem info_parts3 {P : Program} {t : TypeId} {z : Option Value} {s b : Nat} (h : (P.info? t).map (fun i => (i.zero, i.size, i.bytes)) = some (z, s, b)) : ∃ i, P.info? t = some i ∧ i.zero = z ∧ i.size = s ∧ i.bytes = b := by
  cases e : P.info? t with
  | none => rw [e] at h; cases h
  | some i =>
    rw [e] at h
    simp at h
    exact ⟨i, rfl, h.1, h.2.1, h.2.2⟩
def U16 (c : Int) : Prop := 0 ≤ c ∧ c ≤ 65535
def U8 (c : Int) : Prop := 0 ≤ c ∧ c ≤ 255
def tabL : List Int := [0, 4225, 8450, 12675, 16900, 21125, 25350, 29575, 33800, 38025, 42250, 46475, 50700, 54925, 59150, 63375]
def tabP (i : Int) : Int := tabL[i.toNat]?.getD 0
def fourP (c : Int) : Int := bits .xor .u16 (c / 16) (tabP (c % 16))
theorem u16_xor_in (a b : Int) (ha : U16 a) (hb : U16 b) : U16 (bits .xor .u16 a b) := by
  unfold U16 at *
  rw [u16_xor a b ha.1 (by omega) hb.1 (by omega)]
  have : a.toNat ^^^ b.toNat < 2 ^ 16 := Nat.xor_lt_two_pow (by omega) (by omega)
  omega
theorem u16_and_in (a b : Int) (ha : U16 a) (hb : U16 b) : U16 (bits .and .u16 a b) := by
  unfold U16 at *
  rw [u16_and a b ha.1 (by omega) hb.1 (by omega)]
  have : a.toNat &&& b.toNat < 2 ^ 16 := Nat.and_lt_two_pow _ (by omega)
  omega
theorem tab_in (i : Int) : U16 (tabP i) := by
  unfold tabP
  rcases Nat.lt_or_ge i.toNat 16 with h | h
  · have hm : tabL[i.toNat]?.getD 0 ∈ tabL := by
      have hl : i.toNat < tabL.length := h
      rw [List.getElem?_eq_getElem hl]
      exact List.getElem_mem hl
    have : ∀ x ∈ tabL, 0 ≤ x ∧ x ≤ 65535 := by decide
    exact this _ hm
  · rw [List.getElem?_eq_none (show tabL.length ≤ i.toNat from h)]
    unfold U16; simp
theorem four_in (c : Int) (h : U16 c) : U16 (fourP c) := u16_xor_in _ _ (by unfold U16 at *; omega) (tab_in _)
theorem tab_cell (i : Nat) (h : i < 16) : (tabL.map (Value.int .u16)).toArray[i]? = some (.int .u16 (tabP i)) := by
  have hl : i < tabL.length := h
  simp [tabP, hl]
theorem and15 (c : Int) (h : U16 c) : bits .and .u16 c 15 = c % 16 := by
  unfold U16 at h
  rw [u16_and c 15 h.1 (by omega) (by omega) (by omega)]
  have : c.toNat &&& (15 : Int).toNat = c.toNat % 16 := nat_mask4 _
  rw [this]; omega
theorem c_four (c : Int) (w : World) (h : U16 c) :
    Calls Tryz.prog 95 #[.int .u16 c] w fun e w' => e = .returned (.int .u16 (fourP c)) ∧ Below w.heap.size w w' := by
  have e1 := and15 c h
  have h1 : 0 ≤ c % 16 ∧ c % 16 < 16 := by omega
  have hb : Blk (w.alloc (.cells #[.int .u16 0, .int .u16 4225, .int .u16 8450, .int .u16 12675, .int .u16 16900, .int .u16 21125, .int .u16 25350, .int .u16 29575, .int .u16 33800, .int .u16 38025, .int .u16 42250, .int .u16 46475, .int .u16 50700, .int .u16 54925, .int .u16 59150, .int .u16 63375] 288)) w.heap.size 288 (tabL.map (Value.int .u16)).toArray := Blk.new w _ _
  have hc := (hb.cell (c % 16).toNat).trans (tab_cell (c % 16).toNat (by omega))
  rw [Int.toNat_of_nonneg h1.1] at hc
  have hbe := (Below.refl w.heap.size w).alloc (Nat.le_refl _) (.cells #[.int .u16 0, .int .u16 4225, .int .u16 8450, .int .u16 12675, .int .u16 16900, .int .u16 21125, .int .u16 25350, .int .u16 29575, .int .u16 33800, .int .u16 38025, .int .u16 42250, .int .u16 46475, .int .u16 50700, .int .u16 54925, .int .u16 59150, .int .u16 63375] 288)
  have HR : Hid (bits .xor .u16 (c / 16) (tabP (c % 16)) = fourP c) := rfl
  go_enter Tryz.func95, Tryz.ntmps95
  go_upto_region 2 with fail
  generalize w.alloc (.cells #[.int .u16 0, .int .u16 4225, .int .u16 8450, .int .u16 12675, .int .u16 16900, .int .u16 21125, .int .u16 25350, .int .u16 29575, .int .u16 33800, .int .u16 38025, .int .u16 42250, .int .u16 46475, .int .u16 50700, .int .u16 54925, .int .u16 59150, .int .u16 63375] 288) = W at *
  clear hb h
  go_wp2
  go_ret
  exact ⟨by rw [HR.out] <;> rfl, hbe⟩
/-- Many bytes. -/
def crcP (c : Int) (xs : List Int) : Int := xs.foldl (fun c x => fourP (fourP (bits .xor .u16 c x))) c
theorem crc_in (xs : List Int) (hx : ∀ x ∈ xs, U8 x) : ∀ c, U16 c → U16 (crcP c xs) := by
  induction xs with
  | nil => exact fun c h => h
  | cons x xs ih =>
    intro c h
    exact ih (fun y hy => hx y (List.mem_cons_of_mem _ hy)) _ (four_in _ (four_in _ (u16_xor_in _ _ h (by have := hx x List.mem_cons_self; unfold U8 U16 at *; omega))))
theorem crc_snoc (c x : Int) (xs : List Int) : crcP c (xs ++ [x]) = fourP (fourP (bits .xor .u16 (crcP c xs) x)) := by simp [crcP]
theorem take_snoc (xs : List Int) (j : Nat) (h : j < xs.length) : xs.take (j + 1) = xs.take j ++ [xs[j]?.getD 0] := by
  rw [List.take_add_one]
  simp [h]
theorem getD_in {xs : List Int} {p : Int → Prop} (hx : ∀ x ∈ xs, p x) {j : Nat} (hj : j < xs.length) : p (xs[j]?.getD 0) := by
  rw [List.getElem?_eq_getElem hj]
  exact hx _ (List.getElem_mem hj)
theorem c_More (c : Int) (A : Option Addr) (n cap : Nat) (xs : List Int) (w : World) (hc : U16 c) (h : Row .u8 w w.heap.size A n xs) (hn : n ≤ 9223372036854775807) (hx : ∀ x ∈ xs, U8 x) :
    Calls Tryz.prog 62 #[.int .u16 c, .slice A n cap] w fun e w' => e = .returned (.int .u16 (crcP c xs)) ∧ Below w.heap.size w w' := by
  go_enter Tryz.func62, Tryz.ntmps62
  go_wp2
  go_loopw [0, 9] (fun p i wr => ∃ j : Nat, j ≤ n ∧ i = .int .i64 j ∧ p = .int .u16 (crcP c (xs.take j)) ∧ Below w.heap.size w wr) (fun _ i _ => n - (intOf i).toNat)
  case atStart => exact ⟨0, Nat.zero_le _, rfl, rfl, Below.refl _ _⟩
  case round =>
    obtain ⟨j, hj, rfl, rfl, hb⟩ := hrel
    by_cases hlt : j < n
    · obtain ⟨ad, rfl, _, hcell⟩ := (h.below hb).at_ hlt
      have hl : j < xs.length := by rw [h.1]; exact hlt
      have hx1 : U8 (xs[j]?.getD 0) := getD_in hx hl
      have hq := crc_in (xs.take j) (fun x m => hx x (List.mem_of_mem_take m)) c hc
      have HS := hid (crc_snoc c (xs[j]?.getD 0) (xs.take j))
      have HT := hid (take_snoc xs j hl)
      have hy := u16_xor_in _ _ hq (show U16 (xs[j]?.getD 0) by unfold U8 U16 at *; omega)
      have hz := four_in _ hy
      have m1 : n - (j + 1) < n - j := by omega
      have HH := hid h
      unfold U8 at hx1
      generalize xs[j]?.getD 0 = x at *
      have ex : x % 65536 = x := by omega
      have H1 := hid fun w => c_four _ w hy
      have H2 := hid fun w => c_four _ w hz
      clear h hx hc hq hy hz
      go_wp2_with fail
      refine (H1.out _).mono ?_
      rintro e w1 ⟨rfl, b1⟩
      go_wp2_with fail
      refine (H2.out _).mono ?_
      rintro e w2 ⟨rfl, b2⟩
      have hb2 := (hb.trans (b1.mono hb.size)).trans (b2.mono (Nat.le_trans hb.size b1.size))
      go_wp2_with fail
      go_roundw
      case rel => exact ⟨j + 1, by omega, by go_num, by rw [HT.out, HS.out], hb2⟩
      case measure => simpa [intOf] using m1
    · obtain rfl : j = n := by omega
      have e : xs.take j = xs := List.take_of_length_le (by rw [h.1]; exact Nat.le_refl _)
      rw [e]
      clear e h
      go_wp2
      go_ret
      exact ⟨rfl, hb⟩
def ofP (xs : List Int) : Int := crcP 65535 xs
theorem c_Of (ad : Addr) (A : Option Addr) (n cap : Nat) (xs : List Int) (w : World) (hr : w.cell? ad = some (.slice A n cap)) (h : Row .u8 w w.heap.size A n xs) (hn : n ≤ 9223372036854775807) (hx : ∀ x ∈ xs, U8 x) :
    Calls Tryz.prog 39 #[.slice (some ad) 1 1] w fun e w' => e = .returned (.int .u16 (ofP xs)) ∧ Below w.heap.size w w' := by
  have H1 := hid (c_More 65535 A n cap xs w (by unfold U16; omega) h hn hx)
  have e0 : ad.add 0 = ad := rfl
  clear h hx
  go_enter Tryz.func39, Tryz.ntmps39
  go_wp2
  refine wp_loop_rounds 2 ?_
  rw [rounds_succ]
  go_wp2_with fail
  refine H1.out.mono ?_
  rintro e w1 ⟨rfl, b1⟩
  go_wp2_with fail
  rw [rounds_succ]
  go_wp2
  go_ret
  exact ⟨rfl, b1⟩
/-- Bit by bit. -/
def bitP (c : Int) : Int := bits .xor .u16 (c / 2) (bits .and .u16 (IntKind.u16.wrap (-(c % 2))) 33800)
def stepP (c x : Int) : Int := bitP (bitP (bitP (bitP (bitP (bitP (bitP (bitP (bits .xor .u16 c x))))))))
theorem and1 (c : Int) (h : U16 c) : bits .and .u16 c 1 = c % 2 := by
  unfold U16 at h
  rw [u16_and c 1 h.1 (by omega) (by omega) (by omega)]
  have : c.toNat &&& (1 : Int).toNat = c.toNat % 2 := nat_mask1 _
  rw [this]; omega
theorem bit_in (c : Int) (h : U16 c) : U16 (bitP c) := u16_xor_in _ _ (by unfold U16 at *; omega) (u16_and_in _ _ (by unfold U16; rw [IntKind.wrap_u16]; omega) (by unfold U16; omega))
def bitsP : Nat → Int → Int
  | 0, c => c
  | k + 1, c => bitP (bitsP k c)
theorem bits_in (k : Nat) (c : Int) (h : U16 c) : U16 (bitsP k c) := by
  induction k with
  | zero => exact h
  | succ k ih => exact bit_in _ ih
theorem c_Step (c x : Int) (w : World) (hc : U16 c) (hx : U8 x) :
    Calls Tryz.prog 38 #[.int .u16 c, .int .u8 x] w fun e w' => e = .returned (.int .u16 (bitsP 8 (bits .xor .u16 c x))) ∧ w' = w := by
  have h0 := u16_xor_in _ _ hc (show U16 x by unfold U8 U16 at *; omega)
  unfold U8 at hx
  have ex : x % 65536 = x := by omega
  go_enter Tryz.func38, Tryz.ntmps38
  go_wp2
  obtain ⟨d, hd⟩ : ∃ d, bits .xor .u16 c x = d := ⟨_, rfl⟩
  have HD := hid hd
  rw [hd] at h0 ⊢
  clear hd
  go_loop [0, 9] (fun p i => ∃ j : Nat, j ≤ 8 ∧ i = .int .i64 j ∧ p = .int .u16 (bitsP j d)) (fun _ i => 8 - (intOf i).toNat)
  case atStart => exact ⟨0, by omega, rfl, rfl⟩
  case round =>
    obtain ⟨j, hj, rfl, rfl⟩ := hrel
    by_cases hlt : j < 8
    · have h1 := bits_in j d h0
      have HS : Hid (bitsP (j + 1) d = bitP (bitsP j d)) := rfl
      have e1 := and1 _ h1
      unfold bitP at HS
      go_wp2
      go_round
      case rel => exact ⟨j + 1, by omega, by go_num, by rw [HS.out]⟩
      case measure => simp [intOf]; omega
    · obtain rfl : j = 8 := by omega
      go_wp2
      go_ret
      exact ⟨by rw [HD.out] <;> rfl, rfl⟩
end Go.Proofs.YtldoocndhfgjhaaGreat
namespace Go.Proofs.YtldoocndhfgjhaaGreat
open Go.RowKit
set_option linter.unusedVariables false
set_option linter.unusedSimpArgs false

section
variable {P : Program}
theorem run_copyW (w : World) (dT sT ty elem : TypeId) (g n sCap sz : Nat) (ad : Addr) (cur : Array Value) (t : TypeId) (cs : List Value)
    (hu : P.underlying dT = some (.slice elem)) (hs : (P.info? elem).map (·.size) = some sz)
    (hg : w.heap[g]? = some (.cells cur t (0, 0))) (hn : cs.length = n * sz) (hc : cur.size = n * sz)
    (hsrc : ∀ j v, cs[j]? = some v → w.cell? (ad.add j) = some v) (h1 : ∀ v ∈ cs, v.oneCell' = true) :
    (Builtin.copy_ #[dT, sT] ty #[.slice (some ⟨g, 0, none⟩) n n, .slice (some ad) n sCap]).run P w = .ok (goInt n) (w.setRow g cs.toArray) := by
  have hl := run_loadCells_list (P := P) w ad cs hsrc
  have hst := run_storeCells_at P g 0 t cs 0 cur w hg (by simp; omega) h1
  have e : (cur.toList.take 0 ++ cs ++ cur.toList.drop (0 + cs.length)).toArray = cs.toArray := by
    rw [List.take_zero, List.nil_append, List.drop_of_length_le (by simp; omega), List.append_nil]
  simp only [Nat.add_zero] at hst
  rw [e] at hst
  cases hq : P.info? elem with
  | none => simp [hq] at hs
  | some i =>
    have hi : i.size = sz := by simpa [hq] using hs
    rw [hn] at hl
    simp [Builtin.copy_, run_underlying hu, Builtin.lenOf, Builtin.firstCells, sizeOf, typeInfo, hq, hi, hl, hst]
theorem wpList_copyW {ops : Array Oper} {rest : List Oper} {o : Oper} {a : Act} {w : World} {Q : Exit → Act → World → Prop} (hgd : o.guard = none) (d s : Operand) (dT sT : TypeId)
    (ho : o.op = .call { callee := .builtin .copy, args := #[d, s], argTypes := #[dT, sT] }) (elem : TypeId) (hu : P.underlying dT = some (.slice elem)) (sz : Nat) (hsz : (P.info? elem).map (·.size) = some sz)
    (g n sCap : Nat) (ad : Addr) (hd : a.eval d = .slice (some ⟨g, 0, none⟩) n n) (hs : a.eval s = .slice (some ad) n sCap)
    (cur : Array Value) (t : TypeId) (hg : Blk w g t cur) (hc : cur.size = n * sz) (B : Nat) (ps : List (List Value)) (hr : Tab sz w B (some ad) n ps) (hpos : 0 < sz)
    (h : ∀ w', Blk w' g t ps.flatten.toArray → w.grownBy w' (some g) → wpList P ops Q rest (a.put o.dst (.int .i64 (n : Nat))) w') : wpList P ops Q (o :: rest) a w := by
  refine wpList_plain hgd fun K hK => ?_
  have hrun := run_copyW (P := P) w dT sT o.type elem g n sCap sz ad cur t ps.flatten hu hsz hg (by rw [even_len hr.2.1, hr.1]) hc
    (fun j u hu => by
      have hjl := (List.getElem?_eq_some_iff.1 hu).1
      rw [even_len hr.2.1] at hjl
      have hq : j / sz < ps.length := (Nat.div_lt_iff_lt_mul hpos).2 hjl
      obtain ⟨p, hp⟩ : ∃ p, ps[j / sz]? = some p := ⟨_, List.getElem?_eq_getElem hq⟩
      have hk : j % sz < p.length := by rw [(hr.2.1 p (List.mem_of_getElem? hp)).1]; exact Nat.mod_lt _ hpos
      have e1 : j / sz * sz + j % sz = j := by rw [Nat.mul_comm]; exact Nat.div_add_mod j sz
      have h4 := even_at ps hr.2.1 _ p hp (j % sz) _ (List.getElem?_eq_getElem hk)
      rw [e1, hu] at h4
      have h5 := (hr.2.2.2 ad rfl _ p hp).2 (j % sz) _ (List.getElem?_eq_getElem hk)
      rw [e1] at h5
      rw [h5, ← h4])
    (even_one hr.2.1)
  unfold Oper.wp execOp
  simp only [ho, resolve, invoke, builtin, Sem.run_bind, Sem.run_pure, Result.andThen_ok, List.map_toArray, List.map_cons, List.map_nil, hd, hs, hrun]
  refine hK _ _ (h _ ?_ ?_)
  · show _ = _
    simp only [World.setRow]
    rw [Array.getElem?_modify]
    simp [show w.heap[g]? = _ from hg]
  · refine ⟨rfl, rfl, rfl, by simp [World.setRow], fun i hi hne => ?_⟩
    have h : g ≠ i := fun e => hne (by rw [e])
    simp only [World.setRow]
    rw [Array.getElem?_modify, if_neg h]
/-- 'make([]T, n)' of structs: a new block. -/
theorem wpList_makeW {ops : Array Oper} {rest : List Oper} {o : Oper} {a : Act} {w : World} {Q : Exit → Act → World → Prop} (hgd : o.guard = none) (l c : Operand) (t : TypeId) (hop : o.op = Op.makeSlice t l c)
    (e : TypeId) (i : TypeInfo) (z : Value) (sz bytes : Nat) (h1 : P.underlying t = some (.slice e)) (h2 : P.info? e = some i) (h3 : i.zero = some z) (h4 : i.size = sz) (h5 : i.bytes = bytes) (n : Nat) (N : Int) (hl : a.eval l = .int .i64 N) (hc : a.eval c = .int .i64 N) (hN : N = (n : Int))
    (b2 : bytes * n ≤ 281474976710656) (b3 : n ≤ 9223372036854775807)
    (h : ∀ w' cur, Blk w' w.heap.size e cur → cur.size = n * sz → w.grownBy w' none → w'.heap.size = w.heap.size + 1 → wpList P ops Q rest (a.put o.dst (.slice (some ⟨w.heap.size, 0, none⟩) n n)) w') : wpList P ops Q (o :: rest) a w := by
  subst hN
  subst h5
  subst h4
  refine wpList_plain hgd fun K hK => ?_
  have hrun := run_make (P := P) w t e i z h1 h2 h3 .i64 .i64 n n (by omega) (by omega) (by rw [← Int.natCast_mul]; omega) (by omega)
  unfold Oper.wp
  simp [execOp, hop, hl, hc, hrun, Result.andThen]
  exact hK _ _ (h _ _ (Blk.new w _ _) (size_madeCells _ _) (World.grownBy_alloc w _ none) (by simp))
end
theorem OTab.blk {sz : Nat} {w : World} {base g n : Nat} {e : TypeId} {ps : List (List Value)} (h : Blk w g e ps.flatten.toArray) (hp : Even sz ps) (hn : ps.length = n) (hb : base ≤ g) (hm : n ≤ maxLen) : OTab sz w base e (some ⟨g, 0, none⟩) n n ps := by
  refine ⟨⟨by rw [even_len hp, hn], .inr ⟨g, n, ps.flatten.toArray, rfl, hb, h, Nat.le_refl _, hm, ?_, ?_⟩⟩, hp, hn⟩
  · rw [List.size_toArray, even_len hp, hn]
  · rw [List.take_of_length_le]
    show ps.flatten.length ≤ _
    rw [even_len hp, hn]; exact Nat.le_refl _
theorem flat_set3 : ∀ (ps : List (List Value)), Even 3 ps → ∀ (j : Nat) (a b c : Value), j < ps.length → ((ps.flatten.set (j * 3) a).set (j * 3 + 1) b).set (j * 3 + 2) c = (ps.set j [a, b, c]).flatten := by
  intro ps
  induction ps with
  | nil => intro _ j _ _ _ h; simp at h
  | cons q ps ih =>
    intro he j a b c hj
    obtain ⟨x, y, z, rfl⟩ : ∃ x y z, q = [x, y, z] := by
      have := (he q List.mem_cons_self).1
      match q, this with
      | [x, y, z], _ => exact ⟨x, y, z, rfl⟩
    cases j with
    | zero => simp
    | succ j =>
      have := ih (fun q hq => he q (List.mem_cons_of_mem _ hq)) j a b c (by simpa using hj)
      rw [show (j + 1) * 3 = j * 3 + 1 + 1 + 1 by omega]
      simp only [List.flatten_cons, List.cons_append, List.nil_append, List.set_cons_succ, Nat.add_right_cancel_iff]
      rw [this]
theorem flat_set4 : ∀ (ps : List (List Value)), Even 4 ps → ∀ (j : Nat) (a b c d : Value), j < ps.length → (((ps.flatten.set (j * 4) a).set (j * 4 + 1) b).set (j * 4 + 2) c).set (j * 4 + 3) d = (ps.set j [a, b, c, d]).flatten := by
  intro ps
  induction ps with
  | nil => intro _ j _ _ _ _ h; simp at h
  | cons q ps ih =>
    intro he j a b c d hj
    obtain ⟨x, y, z, u, rfl⟩ : ∃ x y z u, q = [x, y, z, u] := by
      have := (he q List.mem_cons_self).1
      match q, this with
      | [x, y, z, u], _ => exact ⟨x, y, z, u, rfl⟩
    cases j with
    | zero => simp
    | succ j =>
      have := ih (fun q hq => he q (List.mem_cons_of_mem _ hq)) j a b c d (by simpa using hj)
      rw [show (j + 1) * 4 = j * 4 + 1 + 1 + 1 + 1 by omega]
      rw [show j * 4 + 1 + 1 + 1 + 1 + 1 = (j * 4 + 1) + 1 + 1 + 1 + 1 by omega, show j * 4 + 1 + 1 + 1 + 1 + 2 = (j * 4 + 2) + 1 + 1 + 1 + 1 by omega, show j * 4 + 1 + 1 + 1 + 1 + 3 = (j * 4 + 3) + 1 + 1 + 1 + 1 by omega]
      simp only [List.set_cons_succ, List.flatten_cons, List.cons_append, List.nil_append]
      rw [this]
/-- An element goes ahead while it is greater than the one ahead of it. -/
def sink {α : Type} (f : α → Int) : Nat → List α → List α
  | 0, l => l
  | k + 1, l => match l[k]?, l[k + 1]? with
    | some x, some y => if f x < f y then sink f k ((l.set (k + 1) x).set k y) else l
    | _, _ => l
def stab {α : Type} (f : α → Int) (l : List α) : Nat → List α
  | 0 => l
  | i + 1 => sink f i (stab f l i)
theorem sink_len {α : Type} (f : α → Int) : ∀ (k : Nat) (l : List α), (sink f k l).length = l.length := by
  intro k
  induction k with
  | zero => intro l; rfl
  | succ k ih =>
    intro l
    unfold sink
    split
    · split
      · rw [ih]; simp
      · rfl
    · rfl
theorem stab_len {α : Type} (f : α → Int) (l : List α) (i : Nat) : (stab f l i).length = l.length := by
  induction i with
  | zero => rfl
  | succ i ih => show (sink f i _).length = _; rw [sink_len, ih]
theorem sink_yes {α : Type} (f : α → Int) (k : Nat) (l : List α) (x y : α) (hx : l[k]? = some x) (hy : l[k + 1]? = some y) (h : f x < f y) : sink f (k + 1) l = sink f k ((l.set (k + 1) x).set k y) := by
  rw [sink.eq_2]
  simp only [hx, hy, if_pos h]
theorem sink_no {α : Type} (f : α → Int) (k : Nat) (l : List α) (x y : α) (hx : l[k]? = some x) (hy : l[k + 1]? = some y) (h : ¬ f x < f y) : sink f (k + 1) l = l := by
  rw [sink.eq_2]
  simp only [hx, hy, if_neg h]
end Go.Proofs.YtldoocndhfgjhaaGreat
