/- Chapter 31: the sum of a form's text. -/
import Derived.Test.YtldoocndhfgjhaaGreatSchH
import Derived.Test.YtldoocndhfgjhaaGreatStabC
import Derived.Laws.IdiomStrings
namespace Go.Proofs.YtldoocndhfgjhaaGreat
open Go.RowKit
set_option linter.unusedVariables false
set_option linter.unusedSimpArgs false

def bytesL (s : ByteArray) : List Int := s.data.toList.map fun b => (b.toNat : Int)
theorem bytesL_in (s : ByteArray) : ∀ x ∈ bytesL s, U8 x := by
  intro x hx
  obtain ⟨b, _, rfl⟩ := List.mem_map.1 hx
  have := b.toNat_lt
  unfold U8; omega
section
variable {P : Program}
theorem bytes_row (w : World) (e : TypeId) (s : ByteArray) (C : Nat) : Row .u8 (w.drew.alloc (.cells (bytesRow s C) e ((bytesRow s C).size, (bytesRow s C).size + 1))) (w.heap.size + 1) (some ⟨w.heap.size, 0, none⟩) s.size (bytesL s) := by
  refine ⟨by simp [bytesL], fun e => (by cases e), fun ad e j hj => ?_⟩
  cases e
  refine ⟨Nat.lt_succ_self _, ?_⟩
  have e2 : (⟨w.heap.size, 0, none⟩ : Addr).add j = ⟨w.heap.size, j, none⟩ := by unfold Addr.add; split <;> simp_all
  have h9 : (w.drew.alloc (.cells (bytesRow s C) e ((bytesRow s C).size, (bytesRow s C).size + 1))).cell? ⟨w.heap.size, j, none⟩ = (bytesRow s C)[j]? := cell_of_row _ _ j _ _ _ (heap_alloc_new w.drew _)
  rw [e2, h9]
  have hj2 : j < s.data.size := hj
  unfold bytesRow bytesL
  rw [Array.getElem?_append_left (by simpa using hj2)]
  simp
  exact ⟨s.data[j], by simp [hj2], by rw [Array.getElem?_eq_getElem hj2]; rfl⟩
theorem wp_bytes {o : Oper} {a : Act} {w : World} {K : Act → World → Prop} {Q : Exit → Act → World → Prop} (src dst : TypeId) (x : Operand) (ho : o.op = .convert src dst x) (e : TypeId) (s : ByteArray) (hs : P.underlying src = some .string) (hd : P.underlying dst = some (.slice e)) (he : P.underlying e = some (.int .u8)) (hx : a.eval x = .string s)
    (h : ∀ g c w', Row .u8 w' w'.heap.size (some ⟨g, 0, none⟩) s.size (bytesL s) → Below w.heap.size w w' → K (a.put o.dst (.slice (some ⟨g, 0, none⟩) s.size c)) w') : o.wp P a w K Q := by
  have hrun := run_bytes_of_string (P := P) w src dst e s hs hd he
  unfold Oper.wp
  simp [execOp, ho, hx, hrun, Result.andThen]
  refine h _ _ _ ?_ ?_
  · have := bytes_row w e s (grownCap w s.size 0 e)
    simpa using this
  · exact ((Below.refl w.heap.size w).drew).alloc (Nat.le_refl _) _
theorem wpList_bytes {ops : Array Oper} {rest : List Oper} {o : Oper} {a : Act} {w : World} {Q : Exit → Act → World → Prop} (hgd : o.guard = none) (src dst : TypeId) (x : Operand) (ho : o.op = .convert src dst x) (e : TypeId) (s : ByteArray) (hs : P.underlying src = some .string) (hd : P.underlying dst = some (.slice e)) (he : P.underlying e = some (.int .u8)) (hx : a.eval x = .string s)
    (h : ∀ g c w', Row .u8 w' w'.heap.size (some ⟨g, 0, none⟩) s.size (bytesL s) → Below w.heap.size w w' → wpList P ops Q rest (a.put o.dst (.slice (some ⟨g, 0, none⟩) s.size c)) w') : wpList P ops Q (o :: rest) a w :=
  wpList_plain hgd fun _ hK => wp_bytes src dst x ho e s hs hd he hx fun g c w' h2 h3 => hK _ _ (h g c w' h2 h3)
end
def wordP (sz : Int) (sg : Bool) : ByteArray := if sg then { data := #[105, 110, 116, 49, 54, 95, 116] } else if sz = 1 then { data := #[117, 105, 110, 116, 56, 95, 116] } else { data := #[117, 105, 110, 116, 51, 50, 95, 116] }
theorem s_word (sz : Int) (sg : Bool) (s : ByteArray) (w : World) (h : FK sz sg) : Calls Tryz.prog 64 #[.agg #[.string s, .int .i64 sz, .bool sg, .int .i64 0]] w fun e w' => e = .returned (.string (wordP sz sg)) ∧ Below w.heap.size w w' := by
  rcases h with ⟨rfl, rfl⟩ | ⟨rfl, rfl⟩ | ⟨rfl, rfl⟩
  · have hp := (Blk.new w 190 #[.string s, .int .i64 1, .bool false, .int .i64 0]).alloc (.cells #[.string { data := #[] }, .string { data := #[105, 110, 116, 56, 95, 116] }, .string { data := #[105, 110, 116, 49, 54, 95, 116] }, .string { data := #[] }, .string { data := #[105, 110, 116, 51, 50, 95, 116] }, .string { data := #[] }, .string { data := #[] }, .string { data := #[] }, .string { data := #[105, 110, 116, 54, 52, 95, 116] }] 239)
    have ha := Blk.new (w.alloc (.cells #[.string s, .int .i64 1, .bool false, .int .i64 0] 190)) 239 #[.string { data := #[] }, .string { data := #[105, 110, 116, 56, 95, 116] }, .string { data := #[105, 110, 116, 49, 54, 95, 116] }, .string { data := #[] }, .string { data := #[105, 110, 116, 51, 50, 95, 116] }, .string { data := #[] }, .string { data := #[] }, .string { data := #[] }, .string { data := #[105, 110, 116, 54, 52, 95, 116] }]
    simp only [World.size_alloc] at ha
    have hb := ((Below.refl w.heap.size w).alloc (Nat.le_refl _) (.cells #[.string s, .int .i64 1, .bool false, .int .i64 0] 190)).alloc (by simp) (.cells #[.string { data := #[] }, .string { data := #[105, 110, 116, 56, 95, 116] }, .string { data := #[105, 110, 116, 49, 54, 95, 116] }, .string { data := #[] }, .string { data := #[105, 110, 116, 51, 50, 95, 116] }, .string { data := #[] }, .string { data := #[] }, .string { data := #[] }, .string { data := #[105, 110, 116, 54, 52, 95, 116] }] 239)
    have HR : Hid (wordP 1 false = { data := #[117, 105, 110, 116, 56, 95, 116] }) := rfl
    rw [HR.out]
    go_enter Tryz.func64, Tryz.ntmps64
    go_upto_region 2 with fail
    generalize (w.alloc (.cells #[.string s, .int .i64 1, .bool false, .int .i64 0] 190)).alloc (.cells #[.string { data := #[] }, .string { data := #[105, 110, 116, 56, 95, 116] }, .string { data := #[105, 110, 116, 49, 54, 95, 116] }, .string { data := #[] }, .string { data := #[105, 110, 116, 51, 50, 95, 116] }, .string { data := #[] }, .string { data := #[] }, .string { data := #[] }, .string { data := #[105, 110, 116, 54, 52, 95, 116] }] 239) = W at *
    have q1 : W.cell? ⟨w.heap.size, 1, none⟩ = some (.int .i64 1) := hp.cell 1
    have q2 : W.cell? ⟨w.heap.size, 2, none⟩ = some (.bool false) := hp.cell 2
    have q3 : W.cell? ⟨w.heap.size + 1, 1, none⟩ = some (.string { data := #[105, 110, 116, 56, 95, 116] }) := ha.cell 1
    have HC : Hid (({ data := #[117] } : ByteArray) ++ { data := #[105, 110, 116, 56, 95, 116] } = { data := #[117, 105, 110, 116, 56, 95, 116] }) := rfl
    go_wp2
    go_ret
    exact ⟨by rw [← HC.out] <;> rfl, hb⟩
  · have hp := (Blk.new w 190 #[.string s, .int .i64 4, .bool false, .int .i64 0]).alloc (.cells #[.string { data := #[] }, .string { data := #[105, 110, 116, 56, 95, 116] }, .string { data := #[105, 110, 116, 49, 54, 95, 116] }, .string { data := #[] }, .string { data := #[105, 110, 116, 51, 50, 95, 116] }, .string { data := #[] }, .string { data := #[] }, .string { data := #[] }, .string { data := #[105, 110, 116, 54, 52, 95, 116] }] 239)
    have ha := Blk.new (w.alloc (.cells #[.string s, .int .i64 4, .bool false, .int .i64 0] 190)) 239 #[.string { data := #[] }, .string { data := #[105, 110, 116, 56, 95, 116] }, .string { data := #[105, 110, 116, 49, 54, 95, 116] }, .string { data := #[] }, .string { data := #[105, 110, 116, 51, 50, 95, 116] }, .string { data := #[] }, .string { data := #[] }, .string { data := #[] }, .string { data := #[105, 110, 116, 54, 52, 95, 116] }]
    simp only [World.size_alloc] at ha
    have hb := ((Below.refl w.heap.size w).alloc (Nat.le_refl _) (.cells #[.string s, .int .i64 4, .bool false, .int .i64 0] 190)).alloc (by simp) (.cells #[.string { data := #[] }, .string { data := #[105, 110, 116, 56, 95, 116] }, .string { data := #[105, 110, 116, 49, 54, 95, 116] }, .string { data := #[] }, .string { data := #[105, 110, 116, 51, 50, 95, 116] }, .string { data := #[] }, .string { data := #[] }, .string { data := #[] }, .string { data := #[105, 110, 116, 54, 52, 95, 116] }] 239)
    have HR : Hid (wordP 4 false = { data := #[117, 105, 110, 116, 51, 50, 95, 116] }) := rfl
    rw [HR.out]
    go_enter Tryz.func64, Tryz.ntmps64
    go_upto_region 2 with fail
    generalize (w.alloc (.cells #[.string s, .int .i64 4, .bool false, .int .i64 0] 190)).alloc (.cells #[.string { data := #[] }, .string { data := #[105, 110, 116, 56, 95, 116] }, .string { data := #[105, 110, 116, 49, 54, 95, 116] }, .string { data := #[] }, .string { data := #[105, 110, 116, 51, 50, 95, 116] }, .string { data := #[] }, .string { data := #[] }, .string { data := #[] }, .string { data := #[105, 110, 116, 54, 52, 95, 116] }] 239) = W at *
    have q1 : W.cell? ⟨w.heap.size, 1, none⟩ = some (.int .i64 4) := hp.cell 1
    have q2 : W.cell? ⟨w.heap.size, 2, none⟩ = some (.bool false) := hp.cell 2
    have q3 : W.cell? ⟨w.heap.size + 1, 4, none⟩ = some (.string { data := #[105, 110, 116, 51, 50, 95, 116] }) := ha.cell 4
    have HC : Hid (({ data := #[117] } : ByteArray) ++ { data := #[105, 110, 116, 51, 50, 95, 116] } = { data := #[117, 105, 110, 116, 51, 50, 95, 116] }) := rfl
    go_wp2
    go_ret
    exact ⟨by rw [← HC.out] <;> rfl, hb⟩
  · have hp := (Blk.new w 190 #[.string s, .int .i64 2, .bool true, .int .i64 0]).alloc (.cells #[.string { data := #[] }, .string { data := #[105, 110, 116, 56, 95, 116] }, .string { data := #[105, 110, 116, 49, 54, 95, 116] }, .string { data := #[] }, .string { data := #[105, 110, 116, 51, 50, 95, 116] }, .string { data := #[] }, .string { data := #[] }, .string { data := #[] }, .string { data := #[105, 110, 116, 54, 52, 95, 116] }] 239)
    have ha := Blk.new (w.alloc (.cells #[.string s, .int .i64 2, .bool true, .int .i64 0] 190)) 239 #[.string { data := #[] }, .string { data := #[105, 110, 116, 56, 95, 116] }, .string { data := #[105, 110, 116, 49, 54, 95, 116] }, .string { data := #[] }, .string { data := #[105, 110, 116, 51, 50, 95, 116] }, .string { data := #[] }, .string { data := #[] }, .string { data := #[] }, .string { data := #[105, 110, 116, 54, 52, 95, 116] }]
    simp only [World.size_alloc] at ha
    have hb := ((Below.refl w.heap.size w).alloc (Nat.le_refl _) (.cells #[.string s, .int .i64 2, .bool true, .int .i64 0] 190)).alloc (by simp) (.cells #[.string { data := #[] }, .string { data := #[105, 110, 116, 56, 95, 116] }, .string { data := #[105, 110, 116, 49, 54, 95, 116] }, .string { data := #[] }, .string { data := #[105, 110, 116, 51, 50, 95, 116] }, .string { data := #[] }, .string { data := #[] }, .string { data := #[] }, .string { data := #[105, 110, 116, 54, 52, 95, 116] }] 239)
    have HR : Hid (wordP 2 true = { data := #[105, 110, 116, 49, 54, 95, 116] }) := rfl
    rw [HR.out]
    go_enter Tryz.func64, Tryz.ntmps64
    go_upto_region 2 with fail
    generalize (w.alloc (.cells #[.string s, .int .i64 2, .bool true, .int .i64 0] 190)).alloc (.cells #[.string { data := #[] }, .string { data := #[105, 110, 116, 56, 95, 116] }, .string { data := #[105, 110, 116, 49, 54, 95, 116] }, .string { data := #[] }, .string { data := #[105, 110, 116, 51, 50, 95, 116] }, .string { data := #[] }, .string { data := #[] }, .string { data := #[] }, .string { data := #[105, 110, 116, 54, 52, 95, 116] }] 239) = W at *
    have q1 : W.cell? ⟨w.heap.size, 1, none⟩ = some (.int .i64 2) := hp.cell 1
    have q2 : W.cell? ⟨w.heap.size, 2, none⟩ = some (.bool true) := hp.cell 2
    have q3 : W.cell? ⟨w.heap.size + 1, 2, none⟩ = some (.string { data := #[105, 110, 116, 49, 54, 95, 116] }) := ha.cell 2
    go_wp2
    go_ret
    exact ⟨by rfl, hb⟩
def lineP (t : Int × Bool × ByteArray) : List Int := bytesL (((wordP t.1 t.2.1 ++ { data := #[32] }) ++ t.2.2) ++ { data := #[32] })
def extP (ts : List (Int × Bool × ByteArray)) (c : Int) : Int := ts.foldl (fun c t => crcP c (lineP t)) c
theorem ext_snoc (ts : List (Int × Bool × ByteArray)) (c : Int) (j : Nat) (t : Int × Bool × ByteArray) (h : ts[j]? = some t) : extP (ts.take (j + 1)) c = crcP (extP (ts.take j) c) (lineP t) := by
  have hl := (List.getElem?_eq_some_iff.1 h).1
  have := (List.getElem?_eq_some_iff.1 h).2
  unfold extP
  rw [List.take_succ_eq_append_getElem hl, List.foldl_append]
  simp [this]
theorem ext_in (ts : List (Int × Bool × ByteArray)) : ∀ c, U16 c → U16 (extP ts c) := by
  induction ts with
  | nil => exact fun c h => h
  | cons t ts ih => exact fun c h => ih _ (crc_in _ (fun x hx => bytesL_in _ x hx) c h)
def xtP (name : ByteArray) (ts : List (Int × Bool × ByteArray)) (n : Nat) : Int :=
  bits .xor .u8 (extP (stab (fun t => t.1) ts n) (crcP 65535 (bytesL (name ++ { data := #[32] }))) % 256) (extP (stab (fun t => t.1) ts n) (crcP 65535 (bytesL (name ++ { data := #[32] }))) / 256 % 256)
theorem xt_in (name : ByteArray) (ts : List (Int × Bool × ByteArray)) (n : Nat) : U8 (xtP name ts n) := by
  unfold xtP U8
  rw [u8_xor _ _ (by omega) (by omega) (by omega) (by omega)]
  have : (extP (stab (fun t => t.1) ts n) (crcP 65535 (bytesL (name ++ { data := #[32] }))) % 256).toNat ^^^ (extP (stab (fun t => t.1) ts n) (crcP 65535 (bytesL (name ++ { data := #[32] }))) / 256 % 256).toNat < 2 ^ 8 := Nat.xor_lt_two_pow (by omega) (by omega)
  omega
theorem s_Wire (ad : Addr) (n cap : Nat) (ts : List (Int × Bool × ByteArray)) (w : World) (hnn : ts.length = n) (h : Tab 4 w w.heap.size (some ad) n (ts.map partV)) (hn : n ≤ 1000) :
    Calls Tryz.prog 63 #[.slice (some ad) n cap] w fun e w' => ∃ g, e = .returned (.slice (some ⟨g, 0, none⟩) n n) ∧ OTab 4 w' w.heap.size 190 (some ⟨g, 0, none⟩) n n ((stab (fun t => t.1) ts n).map partV) ∧ Below w.heap.size w w' := by
  have H0 := pt_stable ad cap ts w (by rw [hnn]; exact h) (by rw [hnn]; exact hn)
  rw [hnn] at H0
  have H := hid H0
  clear h H0 hnn
  go_enter Tryz.func63, Tryz.ntmps63
  go_wp2_with fail
  refine H.out.mono ?_
  rintro e w1 ⟨g, rfl, o1, b1⟩
  have H1 := hid o1
  clear o1
  go_wp2
  go_ret
  exact ⟨g, rfl, H1.out, b1⟩
set_option maxRecDepth 20000 in
set_option maxHeartbeats 8000000 in
theorem s_Extra0 (w : World) : Calls Tryz.prog 40 #[.int .i64 0] w fun e w' => e = .returned (.int .u8 (xtP name0 parts0 6)) ∧ Below w.heap.size w w' := by
  have hne : (name0.toList == []) = false := by rw [ByteArray.toList_eq]; decide
  have hne2 : name0.toList.isEmpty = false := by rw [ByteArray.toList_eq]; decide
  have hne3 : name0.toList ≠ [] := by rw [ByteArray.toList_eq]; decide
  have hus := Tryz.underlying9
  have hub := Tryz.underlying28
  have hu8 := Tryz.underlying5
  have HF := hid (s_find0 w)
  have HXT : Hid (bits .xor .u8 (extP (stab (fun t => t.1) parts0 6) (crcP 65535 (bytesL (name0 ++ { data := #[32] }))) % 256) (extP (stab (fun t => t.1) parts0 6) (crcP 65535 (bytesL (name0 ++ { data := #[32] }))) / 256 % 256) = xtP name0 parts0 6) := rfl
  have HSZ : Hid ((name0 ++ { data := #[32] }).size ≤ 100) := by show _ ≤ _; decide
  have HFK := hid (stab_all (fun t : Int × Bool × ByteArray => t.1) (fun t => FK t.1 t.2.1) parts0 fk0 6)
  have HLS : Hid ((stab (fun t : Int × Bool × ByteArray => t.1) parts0 6).length = 6) := hid (by rw [stab_len]; rfl)
  have HSS : Hid (∀ t ∈ stab (fun t : Int × Bool × ByteArray => t.1) parts0 6, t.2.2.size ≤ 100) := hid (stab_all (fun t : Int × Bool × ByteArray => t.1) (fun t => t.2.2.size ≤ 100) parts0 (by decide) 6)
  generalize xtP name0 parts0 6 = xt at *
  generalize hnm : name0 = nm at *
  have HNM := hid hnm
  clear hnm
  go_enter Tryz.func40, Tryz.ntmps40
  go_wp2_with fail
  refine HF.out.mono ?_
  intro e w1 hp
  obtain ⟨A1, c1, rfl, o1, b1⟩ := hp.to 6 rfl
  clear hp HF
  have hb := b1
  clear b1
  have t1 : Tab 4 w1 w1.heap.size A1 6 (parts0.map partV) := o1.tab
  obtain ⟨gp1, rfl, _⟩ : ∃ g, A1 = some ⟨g, 0, none⟩ ∧ True := by
    rcases o1.form with ⟨_, h0, _⟩ | ⟨g, h1, _⟩
    · omega
    · exact ⟨g, h1, trivial⟩
  clear o1
  have bfm := Blk.new w1 154 #[.string nm, .slice (some ⟨gp1, 0, none⟩) 6 c1]
  replace t1 := (t1.alloc (Nat.le_refl _) (.cells #[.string nm, .slice (some ⟨gp1, 0, none⟩) 6 c1] 154)).more (show _ ≤ (w1.alloc (.cells #[.string nm, .slice (some ⟨gp1, 0, none⟩) 6 c1] 154)).heap.size by simp)
  replace hb := hb.alloc hb.size (.cells #[.string nm, .slice (some ⟨gp1, 0, none⟩) 6 c1] 154)
  go_upto_region 2 with fail
  generalize w1.alloc (.cells #[.string nm, .slice (some ⟨gp1, 0, none⟩) 6 c1] 154) = W1 at *
  generalize w1.heap.size = gf at *
  have q0 : W1.cell? ⟨gf, 0, none⟩ = some (.string nm) := bfm.cell 0
  go_upto_region 4 with fail
  have z0 : ¬ (9223372036854775807 < nm.size + 1) := by have h := HSZ.out; rw [show (nm ++ ({ data := #[32] } : ByteArray)).size = nm.size + 1 by simp [ByteArray.size_append]; rfl] at h; omega
  go_wp2_with (refine wpList_bytes rfl 9 28 (.tmp 14) rfl 5 (nm ++ { data := #[32] }) hus hub hu8 rfl ?_; intro gx cx w2 hrx bx)
  clear q0
  have hrx2 : Row .u8 w2 w2.heap.size (some ⟨gx, 0, none⟩) (nm.size + 1) (bytesL (nm ++ { data := #[32] })) := by have h := hrx; rwa [show (nm ++ ({ data := #[32] } : ByteArray)).size = nm.size + 1 by simp [ByteArray.size_append]; rfl] at h
  have HM := hid (c_More 65535 (some ⟨gx, 0, none⟩) (nm.size + 1) cx (bytesL (nm ++ { data := #[32] })) w2 (by unfold U16; omega) hrx2 (by omega) (bytesL_in _))
  replace bfm := bfm.below bx bfm.lt
  replace t1 := (t1.below bx).more bx.size
  replace hb := hb.trans (bx.mono hb.size)
  clear hrx hrx2 bx
  go_wp2_with fail
  refine HM.out.mono ?_
  rintro e w3 ⟨rfl, b3⟩
  replace bfm := bfm.below b3 bfm.lt
  replace t1 := (t1.below b3).more b3.size
  replace hb := hb.trans (b3.mono hb.size)
  clear b3 HM
  have HC0 := hid (crc_in (bytesL (nm ++ { data := #[32] })) (bytesL_in _) 65535 (by unfold U16; omega))
  generalize crcP 65535 (bytesL (nm ++ { data := #[32] })) = c0 at *
  have q1 : w3.cell? ⟨gf, 1, none⟩ = some (.slice (some ⟨gp1, 0, none⟩) 6 c1) := bfm.cell 1
  have HWI := hid (s_Wire ⟨gp1, 0, none⟩ 6 c1 parts0 w3 rfl t1 (by omega))
  clear t1 bfm
  go_wp2_with fail
  clear q1
  refine HWI.out.mono ?_
  rintro e w4 ⟨gw, rfl, ow, b4⟩
  replace ow := ow.lower hb.size
  replace hb := hb.trans (b4.mono hb.size)
  clear b4 HWI
  generalize stab (fun t : Int × Bool × ByteArray => t.1) parts0 6 = ts at *
  go_wp2_with fail
  go_loopw [4, 21] (fun p i wr => ∃ j : Nat, j ≤ 6 ∧ i = .int .i64 j ∧ p = .int .u16 (extP (ts.take j) c0) ∧ OTab 4 wr w.heap.size 190 (some ⟨gw, 0, none⟩) 6 6 (ts.map partV) ∧ Below w.heap.size w wr) (fun _ i _ => 6 - (intOf i).toNat)
  case atStart => exact ⟨0, Nat.zero_le _, rfl, rfl, ow, hb⟩
  case round =>
    clear ow hb
    obtain ⟨j, hj, rfl, rfl, ow, hb⟩ := hrel
    by_cases hlt : j < 6
    · obtain ⟨⟨sz, sg, s⟩, hs⟩ : ∃ t, ts[j]? = some t := ⟨_, List.getElem?_eq_getElem (by rw [HLS.out]; exact hlt)⟩
      obtain ⟨ad, had, _, hcell⟩ := ow.tab.at_ (j := j) (p := partL sz sg s) (by rw [List.getElem?_map, hs]; rfl)
      cases had
      have c0' := hcell 0 (.string s) rfl
      have c1' := hcell 1 (.int .i64 sz) rfl
      have c2' := hcell 2 (.bool sg) rfl
      have c3' := hcell 3 (.int .i64 0) rfl
      rw [add0] at c0' c1' c2' c3'
      rw [Nat.add_zero] at c0'
      have hfk : FK sz sg := HFK.out _ (List.mem_of_getElem? hs)
      have hss : s.size ≤ 100 := HSS.out _ (List.mem_of_getElem? hs)
      have HS := hid (ext_snoc ts c0 j _ hs)
      have HE := hid (ext_in (ts.take j) c0 HC0.out)
      have HLN : Hid (lineP (sz, sg, s) = bytesL (((wordP sz sg ++ { data := #[32] }) ++ s) ++ { data := #[32] })) := rfl
      have HW := hid fun w => s_word sz sg s w hfk
      have hwz : (wordP sz sg).size ≤ 8 := by rcases hfk with ⟨rfl, rfl⟩ | ⟨rfl, rfl⟩ | ⟨rfl, rfl⟩ <;> decide
      generalize wordP sz sg = wd at *
      generalize extP (ts.take j) c0 = ce at *
      have m1 : 6 - (j + 1) < 6 - j := by omega
      have j0 : (0 : Int) ≤ (j : Int) := by omega
      have j1 : (j : Int) < 6 := by omega
      have hsz := hb.size
      have z1 : ¬ (9223372036854775807 < wd.size + 1) := by omega
      have z2 : ¬ (9223372036854775807 < wd.size + 1 + s.size) := by omega
      have z3 : ¬ (9223372036854775807 < wd.size + 1 + s.size + 1) := by omega
      have HZ4 : Hid (((((wd ++ { data := #[32] }) ++ s) ++ ({ data := #[32] } : ByteArray)) : ByteArray).size = wd.size + 1 + s.size + 1) := hid (by simp [ByteArray.size_append]; rfl)
      clear hcell hs hfk
      go_upto_region 8 with fail
      clear c0' c1' c2' c3'
      have bf := Blk.new wr 190 #[.string s, .int .i64 sz, .bool sg, .int .i64 0]
      replace ow := ow.alloc (.cells #[.string s, .int .i64 sz, .bool sg, .int .i64 0] 190)
      replace hb := hb.alloc hsz (.cells #[.string s, .int .i64 sz, .bool sg, .int .i64 0] 190)
      generalize wr.alloc (.cells #[.string s, .int .i64 sz, .bool sg, .int .i64 0] 190) = W2 at *
      generalize wr.heap.size = gp at *
      refine wp_region_noPanic ?_
      refine wp_region_held_drew (S := (fun w' : World => w'.cell? ⟨gp, 0, none⟩ = some (.string s) ∧ w'.cell? ⟨gp, 1, none⟩ = some (.int .i64 sz) ∧ w'.cell? ⟨gp, 2, none⟩ = some (.bool sg) ∧ w'.cell? ⟨gp, 3, none⟩ = some (.int .i64 0))) (by kernel_rfl) ⟨bf.cell 0, bf.cell 1, bf.cell 2, bf.cell 3⟩ (fun hHeld => ?_)
      refine (show wpAnyH _ _ _ _ _ 11 _ _ _ from ?_)
      try (simp only [Act.put, List.setIfInBounds_toArray, List.set_cons_zero, List.set_cons_succ])
      replace bf := bf.drew
      replace ow := ow.drew
      replace hb := hb.drew
      generalize W2.drew = V0 at *
      refine tk 0 hHeld ?_
      refine tk 1 hHeld ?_
      refine tk 4 hHeld ?_
      refine tk 5 hHeld ?_
      refine rd1 2 (fun K hK => ?_)
      go_simp
      refine (HW.out _).mono ?_
      rintro e V1 ⟨rfl, b1⟩
      go_wp2_with fail
      replace bf := bf.below b1 bf.lt
      replace ow := ow.below b1 (Nat.le_refl _)
      replace hb := hb.trans (b1.mono hb.size)
      clear b1
      refine hK.out _ _ ⟨bf.cell 0, bf.cell 1, bf.cell 2, bf.cell 3⟩ (fun hHeld => ?_)
      clear hK K
      try (simp only [Act.put, List.setIfInBounds_toArray, List.set_cons_zero, List.set_cons_succ])
      refine tk 3 hHeld ?_
      refine tk 6 hHeld ?_
      refine tk 7 hHeld ?_
      refine rd1 8 (fun K hK => ?_)
      rw [if_pos (by kernel_rfl)]
      refine wp_bytes 9 28 (.tmp 32) rfl 5 (((wd ++ { data := #[32] }) ++ s) ++ { data := #[32] }) hus hub hu8 rfl ?_
      intro gx cx V2 hrx b1
      rw [HZ4.out] at hrx ⊢
      replace bf := bf.below b1 bf.lt
      replace ow := ow.below b1 (Nat.le_refl _)
      replace hb := hb.trans (b1.mono hb.size)
      clear b1
      refine hK.out _ _ ⟨bf.cell 0, bf.cell 1, bf.cell 2, bf.cell 3⟩ (fun hHeld => ?_)
      clear hK K
      try (simp only [Act.put, List.setIfInBounds_toArray, List.set_cons_zero, List.set_cons_succ])
      have HM := hid (c_More ce (some ⟨gx, 0, none⟩) (wd.size + 1 + s.size + 1) cx (bytesL (((wd ++ { data := #[32] }) ++ s) ++ { data := #[32] })) V2 HE.out hrx (by omega) (bytesL_in _))
      clear hrx
      refine rd1 9 (fun K hK => ?_)
      go_simp
      refine HM.out.mono ?_
      rintro e V3 ⟨rfl, b1⟩
      go_wp2_with fail
      replace bf := bf.below b1 bf.lt
      replace ow := ow.below b1 (Nat.le_refl _)
      replace hb := hb.trans (b1.mono hb.size)
      clear b1 HM
      refine hK.out _ _ ⟨bf.cell 0, bf.cell 1, bf.cell 2, bf.cell 3⟩ (fun hHeld => ?_)
      clear hK K
      try (simp only [Act.put, List.setIfInBounds_toArray, List.set_cons_zero, List.set_cons_succ])
      refine tk 10 hHeld ?_
      refine wpAnyH_done (by kernel_rfl) ?_ _
      refine NoPanic.normal ?_
      clear hHeld
      have q3 : V3.cell? ⟨gp, 3, none⟩ = some (.int .i64 0) := bf.cell 3
      rw [← HLN.out]
      go_wp2_with fail
      clear q3 bf
      go_roundw
      case rel => exact ⟨j + 1, by omega, by go_num, by rw [HS.out], ow, hb⟩
      case measure => simpa [intOf] using m1
    · obtain rfl : j = 6 := by omega
      have e : ts.take 6 = ts := List.take_of_length_le (by rw [HLS.out]; exact Nat.le_refl _)
      rw [e]
      have hin := ext_in ts c0 HC0.out
      generalize extP ts c0 = ce at *
      unfold U16 at hin
      clear e ow
      have HD : Hid (ce / 256 % 256 = ce / 256) := hid (by omega)
      go_wp2
      go_ret
      exact ⟨by rw [← HXT.out, HD.out] <;> rfl, hb⟩
set_option maxRecDepth 20000 in
set_option maxHeartbeats 8000000 in
theorem s_Extra200 (w : World) : Calls Tryz.prog 40 #[.int .i64 200] w fun e w' => e = .returned (.int .u8 (xtP name200 parts200 5)) ∧ Below w.heap.size w w' := by
  have hne : (name200.toList == []) = false := by rw [ByteArray.toList_eq]; decide
  have hne2 : name200.toList.isEmpty = false := by rw [ByteArray.toList_eq]; decide
  have hne3 : name200.toList ≠ [] := by rw [ByteArray.toList_eq]; decide
  have hus := Tryz.underlying9
  have hub := Tryz.underlying28
  have hu8 := Tryz.underlying5
  have HF := hid (s_find200 w)
  have HXT : Hid (bits .xor .u8 (extP (stab (fun t => t.1) parts200 5) (crcP 65535 (bytesL (name200 ++ { data := #[32] }))) % 256) (extP (stab (fun t => t.1) parts200 5) (crcP 65535 (bytesL (name200 ++ { data := #[32] }))) / 256 % 256) = xtP name200 parts200 5) := rfl
  have HSZ : Hid ((name200 ++ { data := #[32] }).size ≤ 100) := by show _ ≤ _; decide
  have HFK := hid (stab_all (fun t : Int × Bool × ByteArray => t.1) (fun t => FK t.1 t.2.1) parts200 fk200 5)
  have HLS : Hid ((stab (fun t : Int × Bool × ByteArray => t.1) parts200 5).length = 5) := hid (by rw [stab_len]; rfl)
  have HSS : Hid (∀ t ∈ stab (fun t : Int × Bool × ByteArray => t.1) parts200 5, t.2.2.size ≤ 100) := hid (stab_all (fun t : Int × Bool × ByteArray => t.1) (fun t => t.2.2.size ≤ 100) parts200 (by decide) 5)
  generalize xtP name200 parts200 5 = xt at *
  generalize hnm : name200 = nm at *
  have HNM := hid hnm
  clear hnm
  go_enter Tryz.func40, Tryz.ntmps40
  go_wp2_with fail
  refine HF.out.mono ?_
  intro e w1 hp
  obtain ⟨A1, c1, rfl, o1, b1⟩ := hp.to 5 rfl
  clear hp HF
  have hb := b1
  clear b1
  have t1 : Tab 4 w1 w1.heap.size A1 5 (parts200.map partV) := o1.tab
  obtain ⟨gp1, rfl, _⟩ : ∃ g, A1 = some ⟨g, 0, none⟩ ∧ True := by
    rcases o1.form with ⟨_, h0, _⟩ | ⟨g, h1, _⟩
    · omega
    · exact ⟨g, h1, trivial⟩
  clear o1
  have bfm := Blk.new w1 154 #[.string nm, .slice (some ⟨gp1, 0, none⟩) 5 c1]
  replace t1 := (t1.alloc (Nat.le_refl _) (.cells #[.string nm, .slice (some ⟨gp1, 0, none⟩) 5 c1] 154)).more (show _ ≤ (w1.alloc (.cells #[.string nm, .slice (some ⟨gp1, 0, none⟩) 5 c1] 154)).heap.size by simp)
  replace hb := hb.alloc hb.size (.cells #[.string nm, .slice (some ⟨gp1, 0, none⟩) 5 c1] 154)
  go_upto_region 2 with fail
  generalize w1.alloc (.cells #[.string nm, .slice (some ⟨gp1, 0, none⟩) 5 c1] 154) = W1 at *
  generalize w1.heap.size = gf at *
  have q0 : W1.cell? ⟨gf, 0, none⟩ = some (.string nm) := bfm.cell 0
  go_upto_region 4 with fail
  have z0 : ¬ (9223372036854775807 < nm.size + 1) := by have h := HSZ.out; rw [show (nm ++ ({ data := #[32] } : ByteArray)).size = nm.size + 1 by simp [ByteArray.size_append]; rfl] at h; omega
  go_wp2_with (refine wpList_bytes rfl 9 28 (.tmp 14) rfl 5 (nm ++ { data := #[32] }) hus hub hu8 rfl ?_; intro gx cx w2 hrx bx)
  clear q0
  have hrx2 : Row .u8 w2 w2.heap.size (some ⟨gx, 0, none⟩) (nm.size + 1) (bytesL (nm ++ { data := #[32] })) := by have h := hrx; rwa [show (nm ++ ({ data := #[32] } : ByteArray)).size = nm.size + 1 by simp [ByteArray.size_append]; rfl] at h
  have HM := hid (c_More 65535 (some ⟨gx, 0, none⟩) (nm.size + 1) cx (bytesL (nm ++ { data := #[32] })) w2 (by unfold U16; omega) hrx2 (by omega) (bytesL_in _))
  replace bfm := bfm.below bx bfm.lt
  replace t1 := (t1.below bx).more bx.size
  replace hb := hb.trans (bx.mono hb.size)
  clear hrx hrx2 bx
  go_wp2_with fail
  refine HM.out.mono ?_
  rintro e w3 ⟨rfl, b3⟩
  replace bfm := bfm.below b3 bfm.lt
  replace t1 := (t1.below b3).more b3.size
  replace hb := hb.trans (b3.mono hb.size)
  clear b3 HM
  have HC0 := hid (crc_in (bytesL (nm ++ { data := #[32] })) (bytesL_in _) 65535 (by unfold U16; omega))
  generalize crcP 65535 (bytesL (nm ++ { data := #[32] })) = c0 at *
  have q1 : w3.cell? ⟨gf, 1, none⟩ = some (.slice (some ⟨gp1, 0, none⟩) 5 c1) := bfm.cell 1
  have HWI := hid (s_Wire ⟨gp1, 0, none⟩ 5 c1 parts200 w3 rfl t1 (by omega))
  clear t1 bfm
  go_wp2_with fail
  clear q1
  refine HWI.out.mono ?_
  rintro e w4 ⟨gw, rfl, ow, b4⟩
  replace ow := ow.lower hb.size
  replace hb := hb.trans (b4.mono hb.size)
  clear b4 HWI
  generalize stab (fun t : Int × Bool × ByteArray => t.1) parts200 5 = ts at *
  go_wp2_with fail
  go_loopw [4, 21] (fun p i wr => ∃ j : Nat, j ≤ 5 ∧ i = .int .i64 j ∧ p = .int .u16 (extP (ts.take j) c0) ∧ OTab 4 wr w.heap.size 190 (some ⟨gw, 0, none⟩) 5 5 (ts.map partV) ∧ Below w.heap.size w wr) (fun _ i _ => 5 - (intOf i).toNat)
  case atStart => exact ⟨0, Nat.zero_le _, rfl, rfl, ow, hb⟩
  case round =>
    clear ow hb
    obtain ⟨j, hj, rfl, rfl, ow, hb⟩ := hrel
    by_cases hlt : j < 5
    · obtain ⟨⟨sz, sg, s⟩, hs⟩ : ∃ t, ts[j]? = some t := ⟨_, List.getElem?_eq_getElem (by rw [HLS.out]; exact hlt)⟩
      obtain ⟨ad, had, _, hcell⟩ := ow.tab.at_ (j := j) (p := partL sz sg s) (by rw [List.getElem?_map, hs]; rfl)
      cases had
      have c0' := hcell 0 (.string s) rfl
      have c1' := hcell 1 (.int .i64 sz) rfl
      have c2' := hcell 2 (.bool sg) rfl
      have c3' := hcell 3 (.int .i64 0) rfl
      rw [add0] at c0' c1' c2' c3'
      rw [Nat.add_zero] at c0'
      have hfk : FK sz sg := HFK.out _ (List.mem_of_getElem? hs)
      have hss : s.size ≤ 100 := HSS.out _ (List.mem_of_getElem? hs)
      have HS := hid (ext_snoc ts c0 j _ hs)
      have HE := hid (ext_in (ts.take j) c0 HC0.out)
      have HLN : Hid (lineP (sz, sg, s) = bytesL (((wordP sz sg ++ { data := #[32] }) ++ s) ++ { data := #[32] })) := rfl
      have HW := hid fun w => s_word sz sg s w hfk
      have hwz : (wordP sz sg).size ≤ 8 := by rcases hfk with ⟨rfl, rfl⟩ | ⟨rfl, rfl⟩ | ⟨rfl, rfl⟩ <;> decide
      generalize wordP sz sg = wd at *
      generalize extP (ts.take j) c0 = ce at *
      have m1 : 5 - (j + 1) < 5 - j := by omega
      have j0 : (0 : Int) ≤ (j : Int) := by omega
      have j1 : (j : Int) < 5 := by omega
      have hsz := hb.size
      have z1 : ¬ (9223372036854775807 < wd.size + 1) := by omega
      have z2 : ¬ (9223372036854775807 < wd.size + 1 + s.size) := by omega
      have z3 : ¬ (9223372036854775807 < wd.size + 1 + s.size + 1) := by omega
      have HZ4 : Hid (((((wd ++ { data := #[32] }) ++ s) ++ ({ data := #[32] } : ByteArray)) : ByteArray).size = wd.size + 1 + s.size + 1) := hid (by simp [ByteArray.size_append]; rfl)
      clear hcell hs hfk
      go_upto_region 8 with fail
      clear c0' c1' c2' c3'
      have bf := Blk.new wr 190 #[.string s, .int .i64 sz, .bool sg, .int .i64 0]
      replace ow := ow.alloc (.cells #[.string s, .int .i64 sz, .bool sg, .int .i64 0] 190)
      replace hb := hb.alloc hsz (.cells #[.string s, .int .i64 sz, .bool sg, .int .i64 0] 190)
      generalize wr.alloc (.cells #[.string s, .int .i64 sz, .bool sg, .int .i64 0] 190) = W2 at *
      generalize wr.heap.size = gp at *
      refine wp_region_noPanic ?_
      refine wp_region_held_drew (S := (fun w' : World => w'.cell? ⟨gp, 0, none⟩ = some (.string s) ∧ w'.cell? ⟨gp, 1, none⟩ = some (.int .i64 sz) ∧ w'.cell? ⟨gp, 2, none⟩ = some (.bool sg) ∧ w'.cell? ⟨gp, 3, none⟩ = some (.int .i64 0))) (by kernel_rfl) ⟨bf.cell 0, bf.cell 1, bf.cell 2, bf.cell 3⟩ (fun hHeld => ?_)
      refine (show wpAnyH _ _ _ _ _ 11 _ _ _ from ?_)
      try (simp only [Act.put, List.setIfInBounds_toArray, List.set_cons_zero, List.set_cons_succ])
      replace bf := bf.drew
      replace ow := ow.drew
      replace hb := hb.drew
      generalize W2.drew = V0 at *
      refine tk 0 hHeld ?_
      refine tk 1 hHeld ?_
      refine tk 4 hHeld ?_
      refine tk 5 hHeld ?_
      refine rd1 2 (fun K hK => ?_)
      go_simp
      refine (HW.out _).mono ?_
      rintro e V1 ⟨rfl, b1⟩
      go_wp2_with fail
      replace bf := bf.below b1 bf.lt
      replace ow := ow.below b1 (Nat.le_refl _)
      replace hb := hb.trans (b1.mono hb.size)
      clear b1
      refine hK.out _ _ ⟨bf.cell 0, bf.cell 1, bf.cell 2, bf.cell 3⟩ (fun hHeld => ?_)
      clear hK K
      try (simp only [Act.put, List.setIfInBounds_toArray, List.set_cons_zero, List.set_cons_succ])
      refine tk 3 hHeld ?_
      refine tk 6 hHeld ?_
      refine tk 7 hHeld ?_
      refine rd1 8 (fun K hK => ?_)
      rw [if_pos (by kernel_rfl)]
      refine wp_bytes 9 28 (.tmp 32) rfl 5 (((wd ++ { data := #[32] }) ++ s) ++ { data := #[32] }) hus hub hu8 rfl ?_
      intro gx cx V2 hrx b1
      rw [HZ4.out] at hrx ⊢
      replace bf := bf.below b1 bf.lt
      replace ow := ow.below b1 (Nat.le_refl _)
      replace hb := hb.trans (b1.mono hb.size)
      clear b1
      refine hK.out _ _ ⟨bf.cell 0, bf.cell 1, bf.cell 2, bf.cell 3⟩ (fun hHeld => ?_)
      clear hK K
      try (simp only [Act.put, List.setIfInBounds_toArray, List.set_cons_zero, List.set_cons_succ])
      have HM := hid (c_More ce (some ⟨gx, 0, none⟩) (wd.size + 1 + s.size + 1) cx (bytesL (((wd ++ { data := #[32] }) ++ s) ++ { data := #[32] })) V2 HE.out hrx (by omega) (bytesL_in _))
      clear hrx
      refine rd1 9 (fun K hK => ?_)
      go_simp
      refine HM.out.mono ?_
      rintro e V3 ⟨rfl, b1⟩
      go_wp2_with fail
      replace bf := bf.below b1 bf.lt
      replace ow := ow.below b1 (Nat.le_refl _)
      replace hb := hb.trans (b1.mono hb.size)
      clear b1 HM
      refine hK.out _ _ ⟨bf.cell 0, bf.cell 1, bf.cell 2, bf.cell 3⟩ (fun hHeld => ?_)
      clear hK K
      try (simp only [Act.put, List.setIfInBounds_toArray, List.set_cons_zero, List.set_cons_succ])
      refine tk 10 hHeld ?_
      refine wpAnyH_done (by kernel_rfl) ?_ _
      refine NoPanic.normal ?_
      clear hHeld
      have q3 : V3.cell? ⟨gp, 3, none⟩ = some (.int .i64 0) := bf.cell 3
      rw [← HLN.out]
      go_wp2_with fail
      clear q3 bf
      go_roundw
      case rel => exact ⟨j + 1, by omega, by go_num, by rw [HS.out], ow, hb⟩
      case measure => simpa [intOf] using m1
    · obtain rfl : j = 5 := by omega
      have e : ts.take 5 = ts := List.take_of_length_le (by rw [HLS.out]; exact Nat.le_refl _)
      rw [e]
      have hin := ext_in ts c0 HC0.out
      generalize extP ts c0 = ce at *
      unfold U16 at hin
      clear e ow
      have HD : Hid (ce / 256 % 256 = ce / 256) := hid (by omega)
      go_wp2
      go_ret
      exact ⟨by rw [← HXT.out, HD.out] <;> rfl, hb⟩
end Go.Proofs.YtldoocndhfgjhaaGreat
