/- Chapter 43: a timer is pushed. -/
import Derived.Test.YtldoocndhfgjhaaGreatDueF
import Derived.Test.YtldoocndhfgjhaaGreatNodeI
namespace Go.Proofs.YtldoocndhfgjhaaGreat
open Go.RowKit
set_option linter.unusedVariables false
set_option linter.unusedSimpArgs false

theorem infoPT : (Tryz.prog.info? 140).map (fun i => (i.zero, i.size, i.bytes)) = some (some (.pointer none), 1, 8) := by kernel_rfl
theorem info_partsV {z : Value} {s b : Nat} {t : TypeId} (h : (Tryz.prog.info? t).map (fun i => (i.zero, i.size, i.bytes)) = some (some z, s, b)) : ∃ i, Tryz.prog.info? t = some i ∧ i.zero = some z ∧ i.size = s ∧ i.bytes = b := by
  cases e : Tryz.prog.info? t with
  | none => rw [e] at h; cases h
  | some i =>
    rw [e] at h
    simp only [Option.map_some, Option.some.injEq, Prod.mk.injEq] at h
    exact ⟨i, rfl, h.1, h.2.1, h.2.2⟩
theorem run_assert (tb : Nat) (w : World) : (Instr.typeAssert (.iface 140 (.pointer (some ⟨tb, 0, none⟩))) 20 140 true).run Tryz.prog w = .ok (.tuple #[.pointer (some ⟨tb, 0, none⟩), .bool true]) w := by kernel_rfl
def ptr (t : Nat) : Value := .pointer (some ⟨t, 0, none⟩)
theorem even_ptr (t : Nat) : Even 1 [[.pointer (some ⟨t, 0, none⟩)]] := by
  intro p hp
  have : p = [.pointer (some ⟨t, 0, none⟩)] := by simpa using hp
  subst this
  exact ⟨rfl, fun u hu => by have : u = .pointer (some ⟨t, 0, none⟩) := by simpa using hu
                             subst this; rfl⟩
/-- What may turn when a timer is pushed. -/
def PQ (q tb : Nat) (v : Value) (i : Nat) : Prop := i = q ∨ i = tb ∨ v.ownBlock = some i
set_option maxRecDepth 20000 in
set_option maxHeartbeats 4000000 in
theorem r_Push (q base n c tb : Nat) (A : Option Addr) (mv : Value) (i0 a0 e0 : Int) (ps : List (List Value)) (w : World) (hQ : Blk w q 130 #[.slice A n c, mv]) (hB : Blk w tb 142 #[.int .i64 i0, .int .i64 a0, .int .i64 e0, .int .i64 0]) (hO : OTab 1 w base 140 A n c ps) (hb : base ≤ w.heap.size) (hn : n ≤ 100) :
    Calls Tryz.prog 390 #[.pointer (some ⟨q, 0, none⟩), .iface 140 (ptr tb)] w fun e w' => e = .returned (.tuple #[]) ∧ ∃ A' c', Blk w' q 130 #[.slice A' (n + 1) c', mv] ∧ Blk w' tb 142 #[.int .i64 i0, .int .i64 a0, .int .i64 e0, .int .i64 (n : Nat)] ∧ OTab 1 w' base 140 A' (n + 1) c' (ps ++ [[ptr tb]]) ∧ Kept (PQ q tb (.slice A n c)) w w' := by
  obtain ⟨ip, hi, hz, hz1, hby⟩ := info_partsV infoPT
  obtain ⟨nn, hnn⟩ : ∃ nn : Int, ((n : Nat) : Int) = nn := ⟨_, rfl⟩
  rw [hnn]
  have hne : q ≠ tb := hQ.ne_ hB (by decide)
  unfold ptr at *
  have hTA := run_assert tb
  have q0 : w.cell? ⟨q, 0, none⟩ = some (.slice A n c) := hQ.cell 0
  have c3 : w.cell? ⟨tb, 3, none⟩ = some (.int .i64 0) := hB.cell 3
  have z3 := hB.frozen 3
  go_enter Tryz.func390, Tryz.ntmps390
  go_upto_region 3 with fail
  clear c3 z3
  have hB1 := hB.set_ 3 (.int .i64 nn)
  simp only [List.setIfInBounds_toArray, List.set_cons_zero, List.set_cons_succ] at hB1
  have hQ1 := hQ.far (p := ⟨tb, 3, none⟩) hne (.int .i64 nn)
  have hK1 := (Kept.refl (PQ q tb (.slice A n c)) w).set_ (p := ⟨tb, 3, none⟩) (Or.inl (Or.inr (Or.inl rfl))) (.int .i64 nn)
  have hO1 := hO.kept (only_set (World.grownBy.refl w (some tb)) 3 (.int .i64 nn)) (Or.inr (Ne.symm (hO.ne_ hB (by decide))))
  have hb1 : base ≤ (w.setCell ⟨tb, 3, none⟩ (.int .i64 nn)).heap.size := by rw [World.size_setCell]; exact hb
  clear hB hQ hO q0
  generalize w.setCell ⟨tb, 3, none⟩ (.int .i64 nn) = w1 at *
  have q0 : w1.cell? ⟨q, 0, none⟩ = some (.slice A n c) := hQ1.cell 0
  have gn := Blk.new w1 140 #[.pointer (some ⟨tb, 0, none⟩)]
  have hB2 := hB1.alloc (.cells #[.pointer (some ⟨tb, 0, none⟩)] 140)
  have hQ2 := hQ1.alloc (.cells #[.pointer (some ⟨tb, 0, none⟩)] 140)
  have hO2 := hO1.alloc (.cells #[.pointer (some ⟨tb, 0, none⟩)] 140)
  have hK2 := hK1.alloc (.cells #[.pointer (some ⟨tb, 0, none⟩)] 140)
  have hgl : w1.heap.size < (w1.alloc (.cells #[.pointer (some ⟨tb, 0, none⟩)] 140)).heap.size := by simp
  have hTab : Tab 1 (w1.alloc (.cells #[.pointer (some ⟨tb, 0, none⟩)] 140)) (w1.alloc (.cells #[.pointer (some ⟨tb, 0, none⟩)] 140)).heap.size (some ⟨w1.heap.size, 0, none⟩) 1 [[.pointer (some ⟨tb, 0, none⟩)]] := Tab.blk gn rfl (even_ptr tb) rfl hgl
  have hb2 : base ≤ (w1.alloc (.cells #[.pointer (some ⟨tb, 0, none⟩)] 140)).heap.size := by omega
  clear hB1 hQ1 hO1 hK1 gn
  go_wp2_with (at_builtin; refine wpList_appW rfl (.tmp 23) (.tmp 25) _ rfl base 140 ip _ 1 8 Tryz.underlying128 hi hz hz1 hby rfl (by omega) A n c ps rfl hO2 _ (some ⟨w1.heap.size, 0, none⟩) 1 1 _ rfl hTab (by unfold maxLen; omega) (by omega) hb2 ?_; intro A2 c2 V2 hO3 hg2; generalize w1.alloc (.cells #[.pointer (some ⟨tb, 0, none⟩)] 140) = W1 at *; have hneQ := hO2.ne_ hQ2 (by decide); have hneB := hO2.ne_ hB2 (by decide); replace hQ2 := hQ2.grown hg2 hneQ; replace hB2 := hB2.grown hg2 hneB; have q0' := hQ2.cell 0; have z0' := hQ2.frozen 0)
  have t1 := hQ2.set_ 0 (.slice A2 (n + 1) c2)
  simp only [List.setIfInBounds_toArray, List.set_cons_zero, List.set_cons_succ] at t1
  have t2 := hO3.kept (only_set (World.grownBy.refl V2 (some q)) 0 (.slice A2 (n + 1) c2)) (Or.inr (Ne.symm (hO3.ne_ hQ2 (by decide))))
  have hK3 : Kept (PQ q tb (.slice A n c)) w V2 := hK2.trans ⟨⟨hg2.os, hg2.tape, hg2.output, hg2.size, fun i hi => by omega⟩, fun i hi hp => hg2.block i hi (fun e => hp (Or.inr (Or.inr e.symm)))⟩
  have t3 := hK3.set_ (p := ⟨q, 0, none⟩) (Or.inl (Or.inl rfl)) (.slice A2 (n + 1) c2)
  have t4 := hB2.far (p := ⟨q, 0, none⟩) (Ne.symm hne) (.slice A2 (n + 1) c2)
  have HF := hid t1
  have HG := hid t2
  have HH := hid t3
  have HI := hid t4
  clear t1 t2 t3 t4
  go_end0
  exact ⟨rfl, A2, c2, HF.out, HI.out, HG.out, HH.out⟩
theorem otab_two {w : World} {base c : Nat} {e : TypeId} {A : Option Addr} {x y : Value} (h : OTab 1 w base e A 2 c [[x], [y]]) : ∃ g cs, A = some ⟨g, 0, none⟩ ∧ base ≤ g ∧ Blk w g e (x :: y :: cs).toArray := by
  rcases h.1.2 with ⟨_, h0⟩ | ⟨g, cap, cur, hv, hb, hg, hn, _, hs, ht⟩
  · cases h0
  · cases hv
    have h2 : cur.toList.take 2 = [x, y] := ht
    cases hc : cur.toList with
    | nil => rw [hc] at h2; cases h2
    | cons a l =>
      cases l with
      | nil => rw [hc] at h2; simp at h2
      | cons b l =>
        rw [hc] at h2
        simp at h2
        obtain ⟨rfl, rfl⟩ := h2
        refine ⟨g, l, rfl, hb, ?_⟩
        unfold Blk
        rw [hg, ← hc]
theorem h_Push0 (q base tb : Nat) (mv : Value) (i0 a0 e0 : Int) (w : World) (hQ : Blk w q 130 #[.slice none 0 0, mv]) (hB : Blk w tb 142 #[.int .i64 i0, .int .i64 a0, .int .i64 e0, .int .i64 0]) (hb : base ≤ w.heap.size) :
    Calls Tryz.prog 30 #[.iface 144 (.pointer (some ⟨q, 0, none⟩)), .iface 140 (ptr tb)] w fun e w' => e = .returned (.tuple #[]) ∧ ∃ A' c', Blk w' q 130 #[.slice A' 1 c', mv] ∧ Blk w' tb 142 #[.int .i64 i0, .int .i64 a0, .int .i64 e0, .int .i64 0] ∧ OTab 1 w' base 140 A' 1 c' [[ptr tb]] ∧ Kept (PQ q tb (.slice none 0 0)) w w' := by
  have hm := m_Push q w
  have HR := hid (r_Push q base 0 0 tb none mv i0 a0 e0 [] w hQ hB (OTab.nil_ 1 w base 140) hb (by omega))
  clear hQ hB
  unfold ptr at *
  go_enter Tryz.func30, Tryz.ntmps30
  go_wp2_with fail
  refine HR.out.mono ?_
  rintro e w1 ⟨rfl, A1, c1, h1, h2, h3, h4⟩
  clear hm
  have hm := m_Len q (.slice A1 1 c1) w1 (h1.cell 0)
  have H1 := hid h1
  have H2 := hid h2
  have H3 := hid h3
  have H4 := hid h4
  clear h1 h2 h3 h4
  go_wp2_with fail
  refine (d_Len A1 1 c1 w1).mono ?_
  rintro e w2 ⟨rfl, rfl⟩
  go_wp2_with fail
  refine (h_up0 _ w2).mono ?_
  rintro e w3 ⟨rfl, rfl⟩
  go_wp2_with fail
  go_end0
  exact ⟨rfl, A1, c1, H1.out, H2.out, H3.out, H4.out⟩
end Go.Proofs.YtldoocndhfgjhaaGreat
namespace Go.Proofs.YtldoocndhfgjhaaGreat
open Go.RowKit
set_option linter.unusedVariables false
set_option linter.unusedSimpArgs false

theorem or3 {a b c p : Prop} (h : a ∨ b ∨ c) (f : a → p) (g : b → p) (k : c → p) : p := h.elim f (fun h => h.elim g k)
def PB (q base : Nat) (i : Nat) : Prop := i = q ∨ base ≤ i
set_option maxRecDepth 20000 in
theorem h_Push1 (q base c tA tB : Nat) (A : Option Addr) (mv : Value) (w : World) (hQ : Blk w q 130 #[.slice A 1 c, mv]) (hA : Blk w tA 142 #[.int .i64 0, .int .i64 1000, .int .i64 1000, .int .i64 0]) (hB : Blk w tB 142 #[.int .i64 1, .int .i64 100, .int .i64 100, .int .i64 0]) (hO : OTab 1 w base 140 A 1 c [[ptr tA]]) (hb : base ≤ w.heap.size) (hne : tA ≠ tB) (h1 : base ≤ tA) (h2 : base ≤ tB) :
    Calls Tryz.prog 30 #[.iface 144 (.pointer (some ⟨q, 0, none⟩)), .iface 140 (ptr tB)] w fun e w' => e = .returned (.tuple #[]) ∧ ∃ (g c' : Nat) (cs : List Value), Blk w' q 130 #[.slice (some ⟨g, 0, none⟩) 2 c', mv] ∧ base ≤ g ∧ Blk w' g 140 (ptr tB :: ptr tA :: cs).toArray ∧ Blk w' tA 142 #[.int .i64 0, .int .i64 1000, .int .i64 1000, .int .i64 1] ∧ Blk w' tB 142 #[.int .i64 1, .int .i64 100, .int .i64 100, .int .i64 0] ∧ Kept (PB q base) w w' := by
  have hm := m_Push q w
  have hqA : q ≠ tA := hQ.ne_ hA (by decide)
  have hqB : q ≠ tB := hQ.ne_ hB (by decide)
  have hAo := hO.ne_ hA (by decide)
  have hup := hO.up
  have HR := hid (r_Push q base 1 c tB A mv 1 100 100 [[ptr tA]] w hQ hB hO hb (by omega))
  have HA := hid hA
  clear hQ hB hO hA
  unfold ptr at *
  go_enter Tryz.func30, Tryz.ntmps30
  go_wp2_with fail
  refine HR.out.mono ?_
  rintro e w1 ⟨rfl, A1, c1, k1, k2, k3, k4⟩
  have k5 := k4.blk HA.out (fun h => or3 h (fun e => hqA e.symm) (fun e => hne e) (fun e => hAo e.symm))
  obtain ⟨g, cs, rfl, hg, hG⟩ := otab_two k3
  have k1' : Blk w1 q 130 #[.slice (some ⟨g, 0, none⟩) 2 c1, mv] := k1
  have k2' : Blk w1 tB 142 #[.int .i64 1, .int .i64 100, .int .i64 100, .int .i64 1] := k2
  have hK := k4.mono (Q := PB q base) (fun i h => or3 h (fun e => Or.inl e) (fun e => Or.inr (e ▸ h2)) (fun e => Or.inr (hup i e)))
  have HU := hid (h_up1 q g c1 tA tB mv 0 1000 1000 0 1 100 100 1 cs w1 k1' hG k5 k2' hne (hG.ne_ k5 (by decide)) (hG.ne_ k2' (by decide)) (k1'.ne_ hG (by decide)) hqA hqB (by decide))
  have hqg : q ≠ g := k1'.ne_ hG (by decide)
  have H1 := hid k1'
  clear hm HR k1 k2 k3 k4 k5 k2' hG
  have hm := m_Len q (.slice (some ⟨g, 0, none⟩) 2 c1) w1 (k1'.cell 0)
  clear k1'
  go_wp2_with fail
  refine (d_Len (some ⟨g, 0, none⟩) 2 c1 w1).mono ?_
  rintro e w2 ⟨rfl, rfl⟩
  go_wp2_with fail
  refine HU.out.mono ?_
  rintro e w3 ⟨rfl, b1, b2, b3, b4⟩
  have H2 := hid b1
  have H3 := hid b2
  have H4 := hid b3
  have H5 := hid (b4.blk H1.out (fun h => or3 h (fun e => hqg e) (fun e => hqA e) (fun e => hqB e)))
  have H6 := hid (hK.trans (b4.mono (Q := PB q base) (fun i h => or3 h (fun e => Or.inr (e ▸ hg)) (fun e => Or.inr (e ▸ h1)) (fun e => Or.inr (e ▸ h2)))))
  clear b1 b2 b3 b4 hm
  go_wp2_with fail
  go_end0
  exact ⟨rfl, g, c1, cs, H5.out, hg, H2.out, H3.out, H4.out, H6.out⟩
theorem Blk.putObj {w : World} {g : Nat} {t : TypeId} {cs : Array Value} {m k : Nat} {es : Array MapEntry} (h : Blk w g t cs) (hm : MapAt w m es k) (o : Obj) : Blk (w.putObj m o) g t cs := by
  have hne : g ≠ m := fun e => by
    subst e
    unfold Blk at h
    unfold MapAt at hm
    rw [hm] at h
    cases h
  exact (World.putObj_heap_other hne).trans h
theorem Kept.putObj {P : Nat → Prop} {a b : World} (h : Kept P a b) {m : Nat} (hm : P m ∨ a.heap.size ≤ m) (o : Obj) : Kept P a (b.putObj m o) :=
  ⟨⟨h.below.os, h.below.tape, h.below.output, by rw [World.putObj_size]; exact h.below.size, fun i hi => by omega⟩, fun i hi hp => (World.putObj_heap_other (fun e => by subst e; rcases hm with h | h; exact hp h; omega)).trans (h.keep i hi hp)⟩
theorem OTab.putObj {sz : Nat} {w : World} {base : Nat} {e : TypeId} {A : Option Addr} {n c m k : Nat} {ps : List (List Value)} {es : Array MapEntry} (h : OTab sz w base e A n c ps) (hm : MapAt w m es k) (o : Obj) : OTab sz (w.putObj m o) base e A n c ps := ⟨ownsRow_putObj h.1 o hm rfl, h.2⟩
theorem MapAt.put {w : World} {m c : Nat} {es : Array MapEntry} (h : MapAt w m es c) (es' : Array MapEntry) (c' : Nat) : MapAt (w.putObj m (.map es' c')) m es' c' := World.putObj_heap_same (Array.getElem?_eq_some_iff.1 h).1
theorem MapAt.ne_ {w : World} {g m k : Nat} {t : TypeId} {cs : Array Value} {es : Array MapEntry} (hm : MapAt w m es k) (h : Blk w g t cs) : m ≠ g := fun e => by
  subst e
  unfold Blk at h
  unfold MapAt at hm
  rw [hm] at h
  cases h
theorem MapAt.alloc {w : World} {m k : Nat} {es : Array MapEntry} (hm : MapAt w m es k) (o : Obj) : MapAt (w.alloc o) m es k := (Below.heap_alloc w o m (Array.getElem?_eq_some_iff.1 hm).1).trans hm
end Go.Proofs.YtldoocndhfgjhaaGreat
namespace Go.Proofs.YtldoocndhfgjhaaGreat
open Go.RowKit
set_option linter.unusedVariables false
set_option linter.unusedSimpArgs false

theorem MapAt.kept {P : Nat → Prop} {w w' : World} {m c : Nat} {es : Array MapEntry} (h : MapAt w m es c) (hk : Kept P w w') (hp : ¬ P m) : MapAt w' m es c := (hk.keep m (Array.getElem?_eq_some_iff.1 h).1 hp).trans h
theorem MapAt.lt {w : World} {m c : Nat} {es : Array MapEntry} (h : MapAt w m es c) : m < w.heap.size := (Array.getElem?_eq_some_iff.1 h).1
set_option maxRecDepth 20000 in
theorem d_Set0 (q m : Nat) (w : World) (hQ : Blk w q 130 #[.slice none 0 0, .map (some m)]) (hm : MapAt w m #[] 0) :
    Calls Tryz.prog 17 #[.pointer (some ⟨q, 0, none⟩), .int .i64 0, .int .i64 1000, .int .i64 1000] w fun e w' => e = .returned (.bool true) ∧ ∃ (A : Option Addr) (c : Nat), Blk w' q 130 #[.slice A 1 c, .map (some m)] ∧ Blk w' w.heap.size 142 #[.int .i64 0, .int .i64 1000, .int .i64 1000, .int .i64 0] ∧ OTab 1 w' w.heap.size 140 A 1 c [[ptr w.heap.size]] ∧ MapAt w' m #[⟨.int .i64 0, ptr w.heap.size, 0⟩] 1 ∧ Kept (fun i => i = q ∨ i = m) w w' := by
  have HQ := hid hQ
  have HM := hid hm
  clear hQ hm
  go_enter Tryz.func17, Tryz.ntmps17
  go_wp2_with fail
  refine (d_there q m _ w HQ.out).mono ?_
  rintro e w1 ⟨rfl, rfl⟩
  go_wp2_with fail
  refine (d_in 1000 w1 (by decide)).mono ?_
  rintro e w2 ⟨rfl, rfl⟩
  go_wp2_with fail
  refine (d_in 1000 w2 (by decide)).mono ?_
  rintro e w3 ⟨rfl, rfl⟩
  go_wp2_with fail
  refine (d_Unset q m 0 0 _ #[] w3 HQ.out HM.out trivial).mono ?_
  rintro e w4 ⟨rfl, rfl⟩
  go_upto_region 5 with fail
  have e1 := Blk.new w4 142 #[.int .i64 0, .int .i64 1000, .int .i64 1000, .int .i64 0]
  have hQ1 := HQ.out.alloc (.cells #[.int .i64 0, .int .i64 1000, .int .i64 1000, .int .i64 0] 142)
  have hm1 := HM.out.alloc (.cells #[.int .i64 0, .int .i64 1000, .int .i64 1000, .int .i64 0] 142)
  have hK1 := (Kept.refl (fun i => i = q ∨ i = m) w4).alloc (.cells #[.int .i64 0, .int .i64 1000, .int .i64 1000, .int .i64 0] 142)
  have hlt : w4.heap.size < (w4.alloc (.cells #[.int .i64 0, .int .i64 1000, .int .i64 1000, .int .i64 0] 142)).heap.size := by simp
  have hqm := hm1.ne_ hQ1
  have hbm := hm1.ne_ e1
  generalize w4.alloc (.cells #[.int .i64 0, .int .i64 1000, .int .i64 1000, .int .i64 0] 142) = W0 at *
  have q1 : W0.cell? ⟨q, 1, none⟩ = some (.map (some m)) := hQ1.cell 1
  have hmu := run_put_new W0 m 0 0 (.pointer (some ⟨w4.heap.size, 0, none⟩)) #[] hm1 trivial
  go_upto_region 6 with fail
  clear q1 hmu
  have hQ2 := hQ1.putObj hm1 (.map #[⟨.int .i64 0, .pointer (some ⟨w4.heap.size, 0, none⟩), 0⟩] 1)
  have e2 := e1.putObj hm1 (.map #[⟨.int .i64 0, .pointer (some ⟨w4.heap.size, 0, none⟩), 0⟩] 1)
  have hm2 := hm1.put #[⟨.int .i64 0, .pointer (some ⟨w4.heap.size, 0, none⟩), 0⟩] 1
  have hK2 := hK1.putObj (m := m) (Or.inl (Or.inr rfl)) (.map #[⟨.int .i64 0, .pointer (some ⟨w4.heap.size, 0, none⟩), 0⟩] 1)
  have hle : w4.heap.size ≤ (W0.putObj m (.map #[⟨.int .i64 0, .pointer (some ⟨w4.heap.size, 0, none⟩), 0⟩] 1)).heap.size := by rw [World.putObj_size]; omega
  have HP := hid (h_Push0 q w4.heap.size w4.heap.size (.map (some m)) 0 1000 1000 _ hQ2 e2 hle)
  clear hQ1 e1 hm1 hK1 hQ2 e2 hle hlt
  replace hm2 : MapAt _ m _ 1 := hm2
  have HM2 := hid hm2
  have HK2 := hid hK2
  clear hm2 hK2
  unfold ptr at HP
  go_wp2_with fail
  refine HP.out.mono ?_
  rintro e w5 ⟨rfl, A, c, h1, h2, h3, h4⟩
  have hp : ∀ i, PQ q w4.heap.size (.slice none 0 0) i → i = q ∨ i = w4.heap.size := by
    rintro i (h | h | h)
    · exact .inl h
    · exact .inr h
    · cases h
  have hm3 := HM2.out.kept h4 (fun h => (hp _ h).elim hqm hbm)
  have hK3 : Kept (fun i => i = q ∨ i = m) w4 w5 := HK2.out.step h4 (fun i hi h => (hp _ h).elim Or.inl (fun h => absurd h (by omega)))
  have H1 := hid h1
  have H2 := hid h2
  have H3 := hid h3
  have H4 := hid hm3
  have H5 := hid hK3
  clear h1 h2 h3 h4 hm3 hK3 hp
  go_wp2_with fail
  go_ret
  exact ⟨rfl, A, c, H1.out, H2.out, H3.out, H4.out, H5.out⟩
set_option maxRecDepth 20000 in
theorem d_Set1 (q m c tA base : Nat) (A : Option Addr) (w : World) (hQ : Blk w q 130 #[.slice A 1 c, .map (some m)]) (hA : Blk w tA 142 #[.int .i64 0, .int .i64 1000, .int .i64 1000, .int .i64 0]) (hO : OTab 1 w base 140 A 1 c [[ptr tA]]) (hm : MapAt w m #[⟨.int .i64 0, ptr tA, 0⟩] 1) (hb : base ≤ tA) :
    Calls Tryz.prog 17 #[.pointer (some ⟨q, 0, none⟩), .int .i64 1, .int .i64 100, .int .i64 100] w fun e w' => e = .returned (.bool true) ∧ ∃ g cap : Nat, Tms w' q m g cap tA w.heap.size (dueB 0) (dueW 0) ∧ base ≤ g ∧ Kept (fun i => i = q ∨ i = m ∨ base ≤ i) w w' := by
  have HQ := hid hQ
  have HM := hid hm
  have HA := hid hA
  have HO := hid hO
  have hAlt := hA.lt
  have hni : NotIn 1 (#[⟨.int .i64 0, ptr tA, 0⟩] : Array MapEntry).toList := ⟨⟨0, rfl, by decide⟩, trivial⟩
  have HN := hid hni
  clear hQ hm hA hO hni
  go_enter Tryz.func17, Tryz.ntmps17
  go_wp2_with fail
  refine (d_there q m _ w HQ.out).mono ?_
  rintro e w1 ⟨rfl, rfl⟩
  go_wp2_with fail
  refine (d_in 100 w1 (by decide)).mono ?_
  rintro e w2 ⟨rfl, rfl⟩
  go_wp2_with fail
  refine (d_in 100 w2 (by decide)).mono ?_
  rintro e w3 ⟨rfl, rfl⟩
  go_wp2_with fail
  refine (d_Unset q m 1 1 _ _ w3 HQ.out HM.out HN.out).mono ?_
  rintro e w4 ⟨rfl, rfl⟩
  go_upto_region 5 with fail
  have e1 := Blk.new w4 142 #[.int .i64 1, .int .i64 100, .int .i64 100, .int .i64 0]
  have hQ1 := HQ.out.alloc (.cells #[.int .i64 1, .int .i64 100, .int .i64 100, .int .i64 0] 142)
  have hm1 := HM.out.alloc (.cells #[.int .i64 1, .int .i64 100, .int .i64 100, .int .i64 0] 142)
  have hA1 := HA.out.alloc (.cells #[.int .i64 1, .int .i64 100, .int .i64 100, .int .i64 0] 142)
  have hO1 := HO.out.alloc (.cells #[.int .i64 1, .int .i64 100, .int .i64 100, .int .i64 0] 142)
  have hK1 := (Kept.refl (fun i => i = q ∨ i = m ∨ base ≤ i) w4).alloc (.cells #[.int .i64 1, .int .i64 100, .int .i64 100, .int .i64 0] 142)
  have hlt : w4.heap.size < (w4.alloc (.cells #[.int .i64 1, .int .i64 100, .int .i64 100, .int .i64 0] 142)).heap.size := by simp
  have hqm := hm1.ne_ hQ1
  have hbm := hm1.ne_ e1
  have hAm := hm1.ne_ hA1
  have hqA := hQ1.ne_ hA1 (by decide)
  generalize w4.alloc (.cells #[.int .i64 1, .int .i64 100, .int .i64 100, .int .i64 0] 142) = W0 at *
  have q1 : W0.cell? ⟨q, 1, none⟩ = some (.map (some m)) := hQ1.cell 1
  have hmu := run_put_new W0 m 1 1 (.pointer (some ⟨w4.heap.size, 0, none⟩)) _ hm1 HN.out
  go_upto_region 6 with fail
  clear q1 hmu
  generalize hmap : Obj.map (#[⟨.int .i64 0, ptr tA, 0⟩, ⟨.int .i64 1, .pointer (some ⟨w4.heap.size, 0, none⟩), 1⟩] : Array MapEntry) 2 = om at *
  have hQ2 := hQ1.putObj hm1 om
  have e2 := e1.putObj hm1 om
  have hA2 := hA1.putObj hm1 om
  have hO2 := hO1.putObj hm1 om
  have hK2 := hK1.putObj (m := m) (Or.inl (Or.inr (Or.inl rfl))) om
  have hle : base ≤ (W0.putObj m om).heap.size := by rw [World.putObj_size]; omega
  have HP := hid (h_Push1 q base c tA w4.heap.size A (.map (some m)) _ hQ2 hA2 e2 hO2 hle (by omega) hb (by omega))
  have HK2 := hid hK2
  clear hQ1 e1 hm1 hA1 hO1 hK1 hQ2 e2 hA2 hO2 hle hlt hmap hK2
  unfold ptr at HP
  go_wp2_with fail
  refine HP.out.mono ?_
  rintro e w5 ⟨rfl, g, c', cs, h1, h2, h3, h4, h5, h6⟩
  have hK3 : Kept (fun i => i = q ∨ i = m ∨ base ≤ i) w4 w5 := HK2.out.trans (h6.mono (fun i h => h.elim Or.inl (fun h => Or.inr (Or.inr h))))
  have hT : Tms w5 q m g c' tA w4.heap.size (dueB 0) (dueW 0) := ⟨h1, ⟨by omega, h3.ne_ h4 (by decide), h3.ne_ h5 (by decide), h1.ne_ h3 (by decide), h1.ne_ h4 (by decide), h1.ne_ h5 (by decide)⟩, cs, .inr ⟨by decide, h3, h4, h5⟩⟩
  have H1 := hid hT
  have H2 := hid hK3
  clear h1 h3 h4 h5 h6 hK3 hT
  go_wp2_with fail
  go_ret
  exact ⟨rfl, g, c', H1.out, h2, H2.out⟩
end Go.Proofs.YtldoocndhfgjhaaGreat
