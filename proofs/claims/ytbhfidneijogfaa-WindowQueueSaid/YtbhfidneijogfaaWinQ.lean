/- Chapter 39: the walk of WindowQueue. -/
import Derived.Test.YtbhfidneijogfaaWinN
import Derived.Test.YtbhfidneijogfaaOwn
namespace Go.Proofs.Ytbhfidneijogfaa
open Go.RowKit
set_option linter.unusedVariables false
set_option linter.unusedSimpArgs false

section
variable {P : Program} {k : IntKind}
/-- append onto an own slice, and where what comes of it lies. -/
theorem run_app_loc (w : World) (base : Nat) (t ty e : TypeId) (i : TypeInfo) (z : Int) (bytes : Nat) (ht : P.underlying t = some (.slice e)) (hi : P.info? e = some i) (hz : i.zero = some (.int k z))
    (hsize : i.size = 1) (hby : i.bytes = bytes) (A : Option Addr) (n c : Nat) (ys : List Int) (hown : Own k w base e A n c ys)
    (B : Nat) (X : Option Addr) (m d : Nat) (xs : List Int) (hr : Row k w B X m xs)
    (h63 : n + m ≤ maxLen) (hbytes : (n + m) * bytes ≤ 140737488355328) (hbase : base ≤ w.heap.size) :
    ∃ A' c' w', (Builtin.append_ #[t, t] ty #[.slice A n c, .slice X m d]).run P w = .ok (.slice A' (n + m) c') w' ∧ Own k w' base e A' (n + m) c' (ys ++ xs) ∧ w.grownBy w' (Value.slice A n c).ownBlock ∧ ((Value.slice A' (n + m) c').ownBlock = (Value.slice A n c).ownBlock ∨ (Value.slice A' (n + m) c').ownBlock = some w.heap.size) := by
  cases X with
  | none =>
    obtain rfl : m = 0 := hr.2.1 rfl
    obtain rfl : xs = [] := List.eq_nil_of_length_eq_zero hr.1
    exact ⟨A, c, w, run_app_nil w base t ty e i ht hi _ n _ hown d, by simpa using hown, World.grownBy.refl w _, .inl rfl⟩
  | some ad =>
    obtain ⟨v', w', h1, h2, h3, _, h5⟩ := run_append_own_at (P := P) w base t ty e i (.int k z) 1 bytes ht hi hz hsize hby rfl (by decide) _ n _ hown ad m d (xs.map (Value.int k)) (by simp [hr.1])
      (fun j u hu => by
        rw [List.getElem?_map] at hu
        have hj : j < m := by
          rcases Nat.lt_or_ge j xs.length with h | h
          · rw [← hr.1]; exact h
          · rw [List.getElem?_eq_none h] at hu; cases hu
        have hc := (hr.2.2 ad rfl j hj).2
        rw [hc]
        have : j < xs.length := by rw [hr.1]; exact hj
        simp [this] at hu ⊢
        exact hu)
      (fun u hu => by
        obtain ⟨x, _, rfl⟩ := List.mem_map.1 hu
        rfl) h63 hbytes hbase
    rw [← List.map_append] at h2
    rcases h2.2 with ⟨hv, hn⟩ | ⟨g, cap, cur, hv, _⟩
    · subst hv
      refine ⟨none, 0, w', ?_, ?_, h3, ?_⟩
      · rw [hn]; exact h1
      · unfold Own; rw [hn] at h2 ⊢; exact h2
      · exact h5
    · subst hv
      exact ⟨_, cap, w', h1, h2, h3, h5⟩
theorem wpList_app_loc {ops : Array Oper} {rest : List Oper} {o : Oper} {a : Act} {w : World} {Q : Exit → Act → World → Prop} (hgd : o.guard = none) (s x : Operand) (t : TypeId)
    (ho : o.op = .call { callee := .builtin .append, args := #[s, x], argTypes := #[t, t] })
    (base : Nat) (e : TypeId) (i : TypeInfo) (z : Int) (bytes : Nat) (ht : P.underlying t = some (.slice e)) (hi : P.info? e = some i) (hz : i.zero = some (.int k z))
    (hsize : i.size = 1) (hby : i.bytes = bytes) (A : Option Addr) (n c : Nat) (ys : List Int) (hs : a.eval s = .slice A n c) (hown : Own k w base e A n c ys)
    (B : Nat) (X : Option Addr) (m d : Nat) (xs : List Int) (hx : a.eval x = .slice X m d) (hr : Row k w B X m xs)
    (h63 : n + m ≤ maxLen) (hbytes : (n + m) * bytes ≤ 140737488355328) (hbase : base ≤ w.heap.size)
    (h : ∀ A' c' w', Own k w' base e A' (n + m) c' (ys ++ xs) → w.grownBy w' (Value.slice A n c).ownBlock → ((Value.slice A' (n + m) c').ownBlock = (Value.slice A n c).ownBlock ∨ (Value.slice A' (n + m) c').ownBlock = some w.heap.size) → wpList P ops Q rest (a.put o.dst (.slice A' (n + m) c')) w') : wpList P ops Q (o :: rest) a w :=
  wpList_plain hgd fun _ hK => by
    obtain ⟨A', c', w', hrun, h2, h3, h4⟩ := run_app_loc (P := P) w base t o.type e i z bytes ht hi hz hsize hby A n c ys hown B X m d xs hr h63 hbytes hbase
    unfold Oper.wp execOp
    simp only [ho, resolve, invoke, builtin, Sem.run_bind, Sem.run_pure, Result.andThen_ok, List.map_toArray, List.map_cons, List.map_nil, hs, hx, hrun]
    exact hK _ _ (h A' c' w' h2 h3 h4)
end
/-- Two own slices that share no block. -/
def Apart (A B : Option Addr) : Prop := ∀ a b, A = some a → B = some b → a.block ≠ b.block
theorem ob_some (a : Addr) (n c : Nat) : (Value.slice (some a) n c).ownBlock = some a.block := rfl
theorem ob_none (n c : Nat) : (Value.slice none n c).ownBlock = none := rfl
theorem Apart.ne_ {A B : Option Addr} {n c n' c' : Nat} (h : Apart A B) : (Value.slice A n c).ownBlock = none ∨ (Value.slice A n c).ownBlock ≠ (Value.slice B n' c').ownBlock := by
  rcases A with _ | a
  · exact .inl rfl
  · right
    rcases B with _ | b
    · rw [ob_some, ob_none]; simp
    · rw [ob_some, ob_some]
      intro e
      exact h a b rfl rfl (by simpa using e)
theorem Apart.symm {A B : Option Addr} (h : Apart A B) : Apart B A := fun a b e1 e2 e3 => h b a e2 e1 e3.symm
/-- What was appended to stays apart from what lay there. -/
theorem Apart.app {A B A' : Option Addr} {n c n' c' H : Nat} (h : Apart A B) (hB : ∀ b, B = some b → b.block < H) (hl : (Value.slice A' n' c').ownBlock = (Value.slice A n c).ownBlock ∨ (Value.slice A' n' c').ownBlock = some H) : Apart A' B := by
  intro a b e1 e2 e3
  subst e1
  subst e2
  have hb := hB b rfl
  rw [ob_some] at hl
  rcases hl with h1 | h1
  · rcases A with _ | a'
    · rw [ob_none] at h1; cases h1
    · rw [ob_some] at h1
      have h2 : a.block = a'.block := by simpa using h1
      exact h a' b rfl rfl (h2.symm.trans e3)
  · have h2 : a.block = H := by simpa using h1
    omega
theorem Own.blk_lt {k : IntKind} {w : World} {base : Nat} {e : TypeId} {A : Option Addr} {n c : Nat} {ys : List Int} (h : Own k w base e A n c ys) : ∀ b, A = some b → b.block < w.heap.size := by
  intro b e
  subst e
  exact (h.lt b.block rfl).2
theorem Que.ne_own {w : World} {g : Nat} {q : List Int} {base : Nat} {A : Option Addr} {n c : Nat} {ys : List Int} (h : Que w g q) (ho : Own .u8 w base 5 A n c ys) : some g ≠ (Value.slice A n c).ownBlock := by
  obtain ⟨bs, P, N, h, _⟩ := h
  exact ho.ne_ h.1 (by decide)

set_option maxRecDepth 100000 in
set_option maxHeartbeats 16000000 in
theorem windowQueue_walk (A : Option Addr) (n c : Nat) (dr : Nat → Bool) (X : Nat → Option Addr) (sm sc : Nat → Nat) (xs : Nat → List Int) (cn : Nat → Int) (w : World) (h : OpsIn w w.heap.size A n dr X sm sc xs cn) :
    Calls Try.prog 3 #[.slice A n c] w fun e w' => e = .returned (.bool true) ∧ Below w.heap.size w w' := by
  have HF := hid (l_few A n c w.heap.size dr X sm sc xs cn w h)
  have HK := hid fun w => l_knows w
  obtain ⟨i0, hi, hz, hz1, hz2⟩ := winfo_parts winfo8
  by_cases hfew : fewB n sm = true
  case neg =>
    have hf0 : fewB n sm = false := by simpa using hfew
    rw [hf0] at HF
    clear hfew hf0 h
    go_enter Try.func3, Try.ntmps3
    go_wp2_with fail
    refine (HF.out).mono ?_
    rintro e w' ⟨rfl, rfl⟩
    go_wp2_with fail
    refine (HK.out _).mono ?_
    rintro e w1 ⟨rfl, b1⟩
    go_wp2
    go_ret
    exact ⟨rfl, b1⟩
  rw [hfew] at HF
  have hn60 : n ≤ 60 := by
    unfold fewB at hfew
    rw [decide_eq_true_eq] at hfew
    exact hfew.1
  clear hfew
  go_enter Try.func3, Try.ntmps3
  go_wp2_with fail
  refine (HF.out).mono ?_
  rintro e w' ⟨rfl, rfl⟩
  go_wp2_with fail
  refine (HK.out _).mono ?_
  rintro e w1 ⟨rfl, b1⟩
  go_wp2_with fail
  refine (q_New w1).mono ?_
  rintro e w2 ⟨g, rfl, hg0, hq0, hb2⟩
  have b2 : Below w.heap.size w w2 := b1.trans (hb2.mono b1.size)
  have hgw : w.heap.size ≤ g := Nat.le_trans b1.size hg0
  clear hb2 b1 hg0
  go_wp2_with fail
  go_loopw [4, 5, 6] (fun vi vo i wr => ∃ (j : Nat) (Ai Ao : Option Addr) (ni ci no co : Nat) (ins outs q : List Int), j ≤ n ∧ i = .int .i64 j ∧ vi = .slice Ai ni ci ∧ vo = .slice Ao no co ∧ Own .u8 wr w.heap.size 5 Ai ni ci ins ∧ Own .u8 wr w.heap.size 5 Ao no co outs ∧ Apart Ai Ao ∧ Hid (ins = outs ++ q) ∧ ni ≤ 1024 * j ∧ Que wr g q ∧ Below w.heap.size w wr) (fun _ _ i _ => n - (intOf i).toNat)
  case atStart => exact ⟨0, none, none, 0, 0, 0, 0, [], [], [], by omega, rfl, rfl, rfl, Own.nil_ _ _ _ _, Own.nil_ _ _ _ _, fun a b e => (by cases e), rfl, by omega, hq0, b2⟩
  case round =>
    obtain ⟨j, Ai, Ao, ni, ci, no, co, ins, outs, q, hj, rfl, rfl, rfl, hin, hout, hap, hins, hbd, hq, hb⟩ := hrel
    by_cases hlt : j < n
    · have hlt' : (j : Int) < (n : Int) := by omega
      have j0 : (0 : Int) ≤ (j : Int) := by omega
      have ej : IntKind.i64.wrap ((j : Int) + 1) = ((j + 1 : Nat) : Int) := (IntWalk.i64_in _ (by omega)).trans (by omega)
      have mj : n - (j + 1) < n - j := by omega
      have hl1 : ni = no + q.length := by
        have h1 := hin.len
        have h2 := hout.len
        have h3 := congrArg List.length hins.out
        simp at h3
        omega
      have hqlen := hq.len
      have hHP := q_Peek g q wr hq
      obtain ⟨L0, hL0⟩ : ∃ L0, q.length = L0 := ⟨_, rfl⟩
      rw [hL0] at hHP hqlen hl1
      have HL1 := hid hl1
      clear hl1
      cases hd : dr j
      · have hI := h.below hb
        obtain ⟨ad, rfl, hab, _⟩ := hI.at_ hlt
        clear hI
        go_wp2_with fail
        refine (hHP).mono ?_
        clear hHP
        rintro e w1 ⟨rfl, bb1, hbk⟩
        have b1 : Below w.heap.size w w1 := hb.trans (bb1.mono hb.size)
        have hq1 : Que w1 g q := hq.below bb1 hq.lt
        have hin1 := hin.below bb1 (Nat.le_refl _)
        have hout1 := hout.below bb1 (Nat.le_refl _)
        have hI1 := h.below b1
        obtain ⟨ad', he', hab', c0, c1, c2, hrx, hsc, hml, hcn1, hcn2⟩ := hI1.at_ hlt
        cases he'
        rw [hd] at c0
        have hgl := hq.lt
        clear hI1 hin hout hb bb1 hq b2 hq0
        generalize hHS : wr.heap.size = HS at *
        clear hHS
        generalize hX : X j = XA at *
        generalize hX2 : sm j = m at *
        generalize hX3 : sc j = mc at *
        generalize hX4 : xs j = ys at *
        clear c2 hcn1 hcn2
        go_wp2_with fail
        refine (q_Put g q XA m mc ys w.heap.size w1 hq1 hsc hml (fun w' hw' => hrx.aside hgw hq1.lt hw')).mono ?_
        rintro e w2 ⟨rfl, hg2, hq2⟩
        have b2 : Below w.heap.size w w2 := b1.grown hg2 b1.size (by intro k hk; cases hk; exact hgw)
        have hin2 := hin1.kept hg2 (.inr (Ne.symm (hq1.ne_own hin1)))
        have hout2 := hout1.kept hg2 (.inr (Ne.symm (hq1.ne_own hout1)))
        have hbk2 := hbk.grown hg2 (by simp; omega)
        have hK1 : min m (1024 - q.length) ≤ m := by omega
        have hK2 : min m (1024 - q.length) ≤ 1024 := by omega
        have hrx2 : Row .u8 w2 w.heap.size XA (min m (1024 - q.length)) (ys.take (min m (1024 - q.length))) := (hrx.aside hgw hq1.lt hg2).take hK1 (fun e => by have := hrx.2.1 e; omega)
        have HT : Hid (ins ++ ys.take (min m (1024 - q.length)) = outs ++ (q ++ ys.take (min m (1024 - q.length)))) := hid (by rw [hins.out, List.append_assoc])
        generalize hKK : min m (1024 - q.length) = K at *
        have k0 : (0 : Int) ≤ (K : Int) := by omega
        have k1 : ¬ ((K : Int) < 0) := by omega
        have k2 : ¬ ((m : Int) < (K : Int)) := by omega
        have k3 : (K : Int) ≤ (mc : Int) := by omega
        have hI2 := h.below b2
        obtain ⟨ad', he', _, c0', c1', _⟩ := hI2.at_ hlt
        cases he'
        rw [hX, hX2, hX3] at c1'
        have hbw := b2.size
        clear hg2 c0 c1 c0' hI2 hin1 hout1 hbk hbk2 hq1 hL0 hKK b1 HL1 hins hrx hsc hml hX hX2 hX3 hX4
        go_wp2_with (at_builtin; refine wpList_app_loc rfl (.tmp 71) (.tmp 78) _ rfl w.heap.size 5 i0 0 1 Try.underlying27 hi hz hz1 hz2 Ai ni ci ins rfl hin2 w.heap.size XA K mc (ys.take K) rfl hrx2 (by unfold maxLen; omega) (by omega) hbw ?_; intro A3 c3 w3 ho3 hg3 hl3)
        have b3 : Below w.heap.size w w3 := own_below b2 hin2 hg3 hbw
        have hout3 : Own .u8 w3 w.heap.size 5 Ao no co outs := hout2.kept hg3 hap.symm.ne_
        have hap3 : Apart A3 Ao := hap.app hout2.blk_lt hl3
        have hq3 : Que w3 g (q ++ ys.take K) := hq2.grown hg3 (hq2.ne_own hin2)
        have hbd3 : ni + K ≤ 1024 * (j + 1) := by omega
        generalize q ++ ys.take K = q' at *
        generalize ins ++ ys.take K = ins' at *
        generalize hno : ni + K = ni' at *
        have hin3 := ho3
        clear ho3 hl3 hg3 hin2 hout2 hq2 b2 hap k0 k1 k2 k3 hno hrx2 c1'
        have hl2 : ni' = no + q'.length := by
          have h1 := hin3.len
          have h2 := hout3.len
          have h3 := congrArg List.length HT.out
          simp at h3
          omega
        have hL4 := hq3.len
        obtain ⟨L, hL⟩ : ∃ L, q'.length = L := ⟨_, rfl⟩
        rw [hL] at hl2 hL4
        have HL2 := hid hl2
        have hnb : no + L ≤ 65536 := by omega
        clear hl2
        have u1 : IntKind.i64.wrap ((L : Int) + (1024 - (L : Int))) = 1024 := (IntWalk.i64_in _ (by omega)).trans (by omega)
        have u2 : ¬ ((1024 : Int) < (L : Int)) := by omega
        have u3 : decide ((1024 : Int) < (L : Int)) = false := by simp; omega
        go_wp2_with fail
        have hri := hin3.row
        have HRI := hid hri
        clear hri
        refine wp_region_noPanic ?_
        refine wp_region_held_drew (S := (fun w' : World => (convert 27 9 (.slice A3 ni' c3)).run Try.prog w' = .ok (.string (strOfNums ins')) w')) (by kernel_rfl) (run_str (HRI.out.drew) 27 9 5 c3 Try.underlying27 Try.underlying5 Try.underlying9) (fun hHeld => ?_)
        refine (show wpAnyH _ _ _ _ _ 23 _ _ _ from ?_)
        try (simp only [Act.put, List.setIfInBounds_toArray, List.set_cons_zero, List.set_cons_succ])
        have hq4 := hq3.drew
        have b4 := b3.drew
        have hin4 := hin3.drew
        have hout4 := hout3.drew
        clear hq3 b3 hin3 hout3 HRI
        generalize w3.drew = w4 at *
        have HI4 := hid hin4.row
        have HO4 := hid hout4.row
        have be0 := Below.refl w4.heap.size w4
        refine tk 0 hHeld ?_
        refine rd1 1 (fun KK hKK => ?_)
        go_simp
        have HQ := q_Len g q' w4 hq4
        rw [hL] at HQ
        refine (HQ).mono ?_
        clear HQ
        rintro e w' ⟨rfl, rfl⟩
        try go_wp2_with fail
        refine hKK.out _ _ (run_str (HI4.out) 27 9 5 c3 Try.underlying27 Try.underlying5 Try.underlying9) (fun hHeld => ?_)
        clear hKK KK
        try (simp only [Act.put, List.setIfInBounds_toArray, List.set_cons_zero, List.set_cons_succ])
        refine tk 2 hHeld ?_
        refine tk 3 hHeld ?_
        refine tk 4 hHeld ?_
        refine tk 6 hHeld ?_
        refine rd1 5 (fun KK hKK => ?_)
        go_simp
        have HQ := q_Len g q' w4 hq4
        rw [hL] at HQ
        refine (HQ).mono ?_
        clear HQ
        rintro e w' ⟨rfl, rfl⟩
        try go_wp2_with fail
        refine hKK.out _ _ (run_str (HI4.out) 27 9 5 c3 Try.underlying27 Try.underlying5 Try.underlying9) (fun hHeld => ?_)
        clear hKK KK
        try (simp only [Act.put, List.setIfInBounds_toArray, List.set_cons_zero, List.set_cons_succ])
        refine rd1 7 (fun KK hKK => ?_)
        go_simp
        have HQ := q_Room g q' w4 hq4
        rw [hL] at HQ
        refine (HQ).mono ?_
        clear HQ
        rintro e w' ⟨rfl, rfl⟩
        try go_wp2_with fail
        refine hKK.out _ _ (run_str (HI4.out) 27 9 5 c3 Try.underlying27 Try.underlying5 Try.underlying9) (fun hHeld => ?_)
        clear hKK KK
        try (simp only [Act.put, List.setIfInBounds_toArray, List.set_cons_zero, List.set_cons_succ])
        refine tk 8 hHeld ?_
        refine tk 9 hHeld ?_
        refine tk 10 hHeld ?_
        refine tk 11 hHeld ?_
        refine tk 13 hHeld ?_
        refine tk 15 hHeld ?_
        refine tk 19 hHeld ?_
        refine tk 20 hHeld ?_
        refine rd1 12 (fun KK hKK => ?_)
        go_simp
        try go_wp2_with fail
        have be1 := be0.alloc (Nat.le_refl _) (.cells #[] 5)
        refine hKK.out _ _ (run_str (HI4.out.below be1) 27 9 5 c3 Try.underlying27 Try.underlying5 Try.underlying9) (fun hHeld => ?_)
        clear hKK KK
        try (simp only [Act.put, List.setIfInBounds_toArray, List.set_cons_zero, List.set_cons_succ])
        refine rd1 14 (fun KK hKK => ?_)
        rw [if_pos (by kernel_rfl)]
        refine wp_app (.tmp 92) (.tmp 93) _ rfl w4.heap.size 5 i0 0 1 Try.underlying27 hi hz hz1 hz2 (some ⟨w4.heap.size, 0, none⟩) 0 0 [] rfl (Own.empty .u8 w4 _ (Nat.le_refl _)) w4.heap.size Ao no co outs rfl (HO4.out.below be1) (by unfold maxLen; omega) (by omega) be1.size ?_
        intro A5 c5 w5 ho5 hg5
        have be5 := own_below be1 (Own.empty .u8 w4 _ (Nat.le_refl _)) hg5 be1.size
        simp only [Nat.zero_add, List.nil_append] at ho5 ⊢
        clear hg5 be1
        refine hKK.out _ _ (run_str (HI4.out.below be5) 27 9 5 c3 Try.underlying27 Try.underlying5 Try.underlying9) (fun hHeld => ?_)
        clear hKK KK
        try (simp only [Act.put, List.setIfInBounds_toArray, List.set_cons_zero, List.set_cons_succ])
        have hq5 := hq4.below be5 hq4.lt
        refine rd1 16 (fun KK hKK => ?_)
        go_simp
        have HQ := q_Peek g q' w5 hq5
        rw [hL] at HQ
        refine (HQ).mono ?_
        clear HQ
        rintro e w6 ⟨rfl, bb6, hbk6⟩
        try go_wp2_with fail
        have be6 : Below w4.heap.size w4 w6 := be5.trans (bb6.mono be5.size)
        have ho6 := ho5.below bb6 (Nat.le_refl _)
        have hr6 : Row .u8 w6 w6.heap.size (some ⟨w5.heap.size, 0, none⟩) L q' := by have := hbk6.row hbk6.lt; rw [hL] at this; exact this
        refine hKK.out _ _ (run_str (HI4.out.below be6) 27 9 5 c3 Try.underlying27 Try.underlying5 Try.underlying9) (fun hHeld => ?_)
        clear hKK KK
        try (simp only [Act.put, List.setIfInBounds_toArray, List.set_cons_zero, List.set_cons_succ])
        refine rd1 17 (fun KK hKK => ?_)
        rw [if_pos (by kernel_rfl)]
        refine wp_app (.tmp 94) (.tmp 96) _ rfl w4.heap.size 5 i0 0 1 Try.underlying27 hi hz hz1 hz2 A5 no c5 outs rfl ho6 w6.heap.size (some ⟨w5.heap.size, 0, none⟩) L L q' rfl hr6 (by unfold maxLen; omega) (by omega) be6.size ?_
        intro A7 c7 w7 ho7 hg7
        have be7 := own_below be6 ho6 hg7 be6.size
        rw [← HL2.out, ← HT.out] at ho7
        rw [← HL2.out]
        clear hg7
        refine hKK.out _ _ (run_str (HI4.out.below be7) 27 9 5 c3 Try.underlying27 Try.underlying5 Try.underlying9) (fun hHeld => ?_)
        clear hKK KK
        try (simp only [Act.put, List.setIfInBounds_toArray, List.set_cons_zero, List.set_cons_succ])
        have hrow7 := ho7.row
        refine wpAnyH_more (fun w' : World => (convert 27 9 (.slice A7 ni' c7)).run Try.prog w' = .ok (.string (strOfNums ins')) w') (run_str (hrow7) 27 9 5 c7 Try.underlying27 Try.underlying5 Try.underlying9) hHeld (fun hHeld => ?_)
        refine tk 18 hHeld ?_
        refine tk 21 hHeld ?_
        refine tk 22 hHeld ?_
        have b7 : Below w.heap.size w w7 := b4.trans (be7.mono b4.size)
        have hq7 := hq4.below be7 hq4.lt
        have hin7 := hin4.below be7 (Nat.le_refl _)
        have hout7 := hout4.below be7 (Nat.le_refl _)
        clear ho7 ho6 ho5 be0 be5 be6 be7 bb6 hq4 hq5 b4 hin4 hout4 HI4 HO4 hrow7 hr6 hbk6
        refine wpAnyH_done ?hr1 ?hq1 _
        case hr1 => kernel_rfl
        refine NoPanic.normal ?_
        clear hHeld
        go_wp2
        go_roundw
        case rel => exact ⟨j + 1, A3, Ao, ni', c3, no, co, ins', outs, q', by omega, rfl, rfl, rfl, hin7, hout7, hap3, HT, hbd3, hq7, b7⟩
        case measure => simpa [intOf] using mj
      · have hI := h.below hb
        obtain ⟨ad, rfl, hab, _⟩ := hI.at_ hlt
        clear hI
        go_wp2_with fail
        refine (hHP).mono ?_
        clear hHP
        rintro e w1 ⟨rfl, bb1, hbk⟩
        have b1 : Below w.heap.size w w1 := hb.trans (bb1.mono hb.size)
        have hq1 : Que w1 g q := hq.below bb1 hq.lt
        have hin1 := hin.below bb1 (Nat.le_refl _)
        have hout1 := hout.below bb1 (Nat.le_refl _)
        have hI1 := h.below b1
        obtain ⟨ad', he', hab', c0, c1, c2, hrx, hsc, hml, hcn1, hcn2⟩ := hI1.at_ hlt
        cases he'
        rw [hd] at c0
        have hgl := hq.lt
        clear hI1 hin hout hb bb1 hq b2 hq0
        generalize hHS : wr.heap.size = HS at *
        clear hHS
        clear hrx hsc hml c1
        generalize cn j = k at *
        go_wp2_with fail
        refine (q_Drop g q k w1 hq1).mono ?_
        rintro e w2 ⟨rfl, hg2, hq2⟩
        have b2 : Below w.heap.size w w2 := b1.grown hg2 b1.size (by intro k hk; cases hk; exact hgw)
        have hin2 := hin1.kept hg2 (.inr (Ne.symm (hq1.ne_own hin1)))
        have hout2 := hout1.kept hg2 (.inr (Ne.symm (hq1.ne_own hout1)))
        have hbk2 := hbk.grown hg2 (by simp; omega)
        have hK1 : min k.toNat q.length ≤ L0 := by omega
        have HT : Hid (ins = (outs ++ q.take (min k.toNat q.length)) ++ q.drop (min k.toNat q.length)) := hid (by rw [List.append_assoc, List.take_append_drop]; exact hins.out)
        have HTl : (q.take (min k.toNat q.length)).length = min k.toNat q.length := by simp <;> omega
        generalize hKK : min k.toNat q.length = K at *
        have k0 : (0 : Int) ≤ (K : Int) := by omega
        have k1 : ¬ ((K : Int) < 0) := by omega
        have k2 : ¬ ((L0 : Int) < (K : Int)) := by omega
        have k3 : (K : Int) ≤ (L0 : Int) := by omega
        have hrw : Row .u8 w2 w2.heap.size (some ⟨HS, 0, none⟩) K (q.take K) := by have := hbk2.row hbk2.lt; rw [hL0] at this; exact this.take hK1 (fun e => by cases e)
        have hbd' : no + K ≤ 1024 * j := by have := HL1.out; omega
        have hbw := b2.size
        clear hg2 c0 c2 hcn1 hcn2 hin1 hout1 hbk hbk2 hq1 hL0 hKK b1 HL1 hK1 hins
        go_wp2_with (at_builtin; refine wpList_app_loc rfl (.tmp 47) (.tmp 50) _ rfl w.heap.size 5 i0 0 1 Try.underlying27 hi hz hz1 hz2 Ao no co outs rfl hout2 w2.heap.size (some ⟨HS, 0, none⟩) K L0 (q.take K) rfl hrw (by unfold maxLen; omega) (by omega) hbw ?_; intro A3 c3 w3 ho3 hg3 hl3)
        have b3 : Below w.heap.size w w3 := own_below b2 hout2 hg3 hbw
        have hin3 : Own .u8 w3 w.heap.size 5 Ai ni ci ins := hin2.kept hg3 hap.ne_
        have hap3 : Apart Ai A3 := (hap.symm.app hin2.blk_lt hl3).symm
        have hq3 : Que w3 g (q.drop K) := hq2.grown hg3 (hq2.ne_own hout2)
        have hbd3 : ni ≤ 1024 * (j + 1) := by omega
        generalize q.drop K = q' at *
        generalize outs ++ q.take K = outs' at *
        generalize hno : no + K = no' at *
        have hout3 := ho3
        clear ho3 hl3 hg3 hrw hin2 hout2 hq2 b2 HTl hap k0 k1 k2 k3 hno
        have hl2 : ni = no' + q'.length := by
          have h1 := hin3.len
          have h2 := hout3.len
          have h3 := congrArg List.length HT.out
          simp at h3
          omega
        have hL4 := hq3.len
        obtain ⟨L, hL⟩ : ∃ L, q'.length = L := ⟨_, rfl⟩
        rw [hL] at hl2 hL4
        have HL2 := hid hl2
        have hnb : no' + L ≤ 65536 := by omega
        clear hl2
        have u1 : IntKind.i64.wrap ((L : Int) + (1024 - (L : Int))) = 1024 := (IntWalk.i64_in _ (by omega)).trans (by omega)
        have u2 : ¬ ((1024 : Int) < (L : Int)) := by omega
        have u3 : decide ((1024 : Int) < (L : Int)) = false := by simp; omega
        go_wp2_with fail
        have hri := hin3.row
        have HRI := hid hri
        clear hri
        refine wp_region_noPanic ?_
        refine wp_region_held_drew (S := (fun w' : World => (convert 27 9 (.slice Ai ni ci)).run Try.prog w' = .ok (.string (strOfNums ins)) w')) (by kernel_rfl) (run_str (HRI.out.drew) 27 9 5 ci Try.underlying27 Try.underlying5 Try.underlying9) (fun hHeld => ?_)
        refine (show wpAnyH _ _ _ _ _ 23 _ _ _ from ?_)
        try (simp only [Act.put, List.setIfInBounds_toArray, List.set_cons_zero, List.set_cons_succ])
        have hq4 := hq3.drew
        have b4 := b3.drew
        have hin4 := hin3.drew
        have hout4 := hout3.drew
        clear hq3 b3 hin3 hout3 HRI
        generalize w3.drew = w4 at *
        have HI4 := hid hin4.row
        have HO4 := hid hout4.row
        have be0 := Below.refl w4.heap.size w4
        refine tk 0 hHeld ?_
        refine rd1 1 (fun KK hKK => ?_)
        go_simp
        have HQ := q_Len g q' w4 hq4
        rw [hL] at HQ
        refine (HQ).mono ?_
        clear HQ
        rintro e w' ⟨rfl, rfl⟩
        try go_wp2_with fail
        refine hKK.out _ _ (run_str (HI4.out) 27 9 5 ci Try.underlying27 Try.underlying5 Try.underlying9) (fun hHeld => ?_)
        clear hKK KK
        try (simp only [Act.put, List.setIfInBounds_toArray, List.set_cons_zero, List.set_cons_succ])
        refine tk 2 hHeld ?_
        refine tk 3 hHeld ?_
        refine tk 4 hHeld ?_
        refine tk 6 hHeld ?_
        refine rd1 5 (fun KK hKK => ?_)
        go_simp
        have HQ := q_Len g q' w4 hq4
        rw [hL] at HQ
        refine (HQ).mono ?_
        clear HQ
        rintro e w' ⟨rfl, rfl⟩
        try go_wp2_with fail
        refine hKK.out _ _ (run_str (HI4.out) 27 9 5 ci Try.underlying27 Try.underlying5 Try.underlying9) (fun hHeld => ?_)
        clear hKK KK
        try (simp only [Act.put, List.setIfInBounds_toArray, List.set_cons_zero, List.set_cons_succ])
        refine rd1 7 (fun KK hKK => ?_)
        go_simp
        have HQ := q_Room g q' w4 hq4
        rw [hL] at HQ
        refine (HQ).mono ?_
        clear HQ
        rintro e w' ⟨rfl, rfl⟩
        try go_wp2_with fail
        refine hKK.out _ _ (run_str (HI4.out) 27 9 5 ci Try.underlying27 Try.underlying5 Try.underlying9) (fun hHeld => ?_)
        clear hKK KK
        try (simp only [Act.put, List.setIfInBounds_toArray, List.set_cons_zero, List.set_cons_succ])
        refine tk 8 hHeld ?_
        refine tk 9 hHeld ?_
        refine tk 10 hHeld ?_
        refine tk 11 hHeld ?_
        refine tk 13 hHeld ?_
        refine tk 15 hHeld ?_
        refine tk 19 hHeld ?_
        refine tk 20 hHeld ?_
        refine rd1 12 (fun KK hKK => ?_)
        go_simp
        try go_wp2_with fail
        have be1 := be0.alloc (Nat.le_refl _) (.cells #[] 5)
        refine hKK.out _ _ (run_str (HI4.out.below be1) 27 9 5 ci Try.underlying27 Try.underlying5 Try.underlying9) (fun hHeld => ?_)
        clear hKK KK
        try (simp only [Act.put, List.setIfInBounds_toArray, List.set_cons_zero, List.set_cons_succ])
        refine rd1 14 (fun KK hKK => ?_)
        rw [if_pos (by kernel_rfl)]
        refine wp_app (.tmp 92) (.tmp 93) _ rfl w4.heap.size 5 i0 0 1 Try.underlying27 hi hz hz1 hz2 (some ⟨w4.heap.size, 0, none⟩) 0 0 [] rfl (Own.empty .u8 w4 _ (Nat.le_refl _)) w4.heap.size A3 no' c3 outs' rfl (HO4.out.below be1) (by unfold maxLen; omega) (by omega) be1.size ?_
        intro A5 c5 w5 ho5 hg5
        have be5 := own_below be1 (Own.empty .u8 w4 _ (Nat.le_refl _)) hg5 be1.size
        simp only [Nat.zero_add, List.nil_append] at ho5 ⊢
        clear hg5 be1
        refine hKK.out _ _ (run_str (HI4.out.below be5) 27 9 5 ci Try.underlying27 Try.underlying5 Try.underlying9) (fun hHeld => ?_)
        clear hKK KK
        try (simp only [Act.put, List.setIfInBounds_toArray, List.set_cons_zero, List.set_cons_succ])
        have hq5 := hq4.below be5 hq4.lt
        refine rd1 16 (fun KK hKK => ?_)
        go_simp
        have HQ := q_Peek g q' w5 hq5
        rw [hL] at HQ
        refine (HQ).mono ?_
        clear HQ
        rintro e w6 ⟨rfl, bb6, hbk6⟩
        try go_wp2_with fail
        have be6 : Below w4.heap.size w4 w6 := be5.trans (bb6.mono be5.size)
        have ho6 := ho5.below bb6 (Nat.le_refl _)
        have hr6 : Row .u8 w6 w6.heap.size (some ⟨w5.heap.size, 0, none⟩) L q' := by have := hbk6.row hbk6.lt; rw [hL] at this; exact this
        refine hKK.out _ _ (run_str (HI4.out.below be6) 27 9 5 ci Try.underlying27 Try.underlying5 Try.underlying9) (fun hHeld => ?_)
        clear hKK KK
        try (simp only [Act.put, List.setIfInBounds_toArray, List.set_cons_zero, List.set_cons_succ])
        refine rd1 17 (fun KK hKK => ?_)
        rw [if_pos (by kernel_rfl)]
        refine wp_app (.tmp 94) (.tmp 96) _ rfl w4.heap.size 5 i0 0 1 Try.underlying27 hi hz hz1 hz2 A5 no' c5 outs' rfl ho6 w6.heap.size (some ⟨w5.heap.size, 0, none⟩) L L q' rfl hr6 (by unfold maxLen; omega) (by omega) be6.size ?_
        intro A7 c7 w7 ho7 hg7
        have be7 := own_below be6 ho6 hg7 be6.size
        rw [← HL2.out, ← HT.out] at ho7
        rw [← HL2.out]
        clear hg7
        refine hKK.out _ _ (run_str (HI4.out.below be7) 27 9 5 ci Try.underlying27 Try.underlying5 Try.underlying9) (fun hHeld => ?_)
        clear hKK KK
        try (simp only [Act.put, List.setIfInBounds_toArray, List.set_cons_zero, List.set_cons_succ])
        have hrow7 := ho7.row
        refine wpAnyH_more (fun w' : World => (convert 27 9 (.slice A7 ni c7)).run Try.prog w' = .ok (.string (strOfNums ins)) w') (run_str (hrow7) 27 9 5 c7 Try.underlying27 Try.underlying5 Try.underlying9) hHeld (fun hHeld => ?_)
        refine tk 18 hHeld ?_
        refine tk 21 hHeld ?_
        refine tk 22 hHeld ?_
        have b7 : Below w.heap.size w w7 := b4.trans (be7.mono b4.size)
        have hq7 := hq4.below be7 hq4.lt
        have hin7 := hin4.below be7 (Nat.le_refl _)
        have hout7 := hout4.below be7 (Nat.le_refl _)
        clear ho7 ho6 ho5 be0 be5 be6 be7 bb6 hq4 hq5 b4 hin4 hout4 HI4 HO4 hrow7 hr6 hbk6
        refine wpAnyH_done ?hr2 ?hq2 _
        case hr2 => kernel_rfl
        refine NoPanic.normal ?_
        clear hHeld
        go_wp2
        go_roundw
        case rel => exact ⟨j + 1, Ai, A3, ni, ci, no', c3, ins, outs', q', by omega, rfl, rfl, rfl, hin7, hout7, hap3, HT, hbd3, hq7, b7⟩
        case measure => simpa [intOf] using mj
    · obtain rfl : j = n := by omega
      clear h
      go_wp2
      go_ret
      exact ⟨rfl, hb⟩
end Go.Proofs.Ytbhfidneijogfaa
