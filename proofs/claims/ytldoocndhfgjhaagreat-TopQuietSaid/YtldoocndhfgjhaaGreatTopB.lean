/- Through the layers: quiet: the law's two loops. -/
import Derived.Test.YtldoocndhfgjhaaGreatTopA
namespace Go.Proofs.YtldoocndhfgjhaaGreat
open Go.RowKit
set_option linter.unusedVariables false
set_option linter.unusedSimpArgs false

/-- The first loop, between two ticks. -/
def Loop1 (nb db wa q mb g cap tA tB L base : Nat) (H A B : Value) (w : World) (now out i : Value) (wr : World) : Prop :=
  ∃ (j n c : Nat) (N s : Int) (O : Option Addr) (evs : List (List Value)), now = .int .i64 N ∧ out = .slice O n c ∧ i = .int .i64 (j : Nat) ∧ j ≤ L ∧ 0 ≤ N ∧ N ≤ 10000 * (j : Int) ∧ n = cntP N ∧ s = ((n : Nat) : Int) ∧ NIdle wr nb db wa q mb g cap tA tB s N H A B n ∧ OTab 123 wr base 75 O n c evs ∧ Evs wr 0 evs ∧ Below w.heap.size w wr ∧ base ≤ wr.heap.size
/-- The second loop, between two events. -/
def Loop2 (nb db wa q mb g cap tA tB n c base : Nat) (s N : Int) (H A B : Value) (O : Option Addr) (evs : List (List Value)) (w : World) (words beats i : Value) (wr : World) : Prop :=
  ∃ k : Nat, words = .int .i64 ((wd k : Nat) : Int) ∧ beats = .int .i64 ((bt k : Nat) : Int) ∧ i = .int .i64 (k : Nat) ∧ k ≤ n ∧ NIdle wr nb db wa q mb g cap tA tB s N H A B n ∧ OTab 123 wr base 75 O n c evs ∧ Evs wr 0 evs ∧ Below w.heap.size w wr
theorem info_event : ∃ i, Tryz.prog.info? 75 = some i ∧ i.zero = some (.agg zeL.toArray) ∧ i.size = 123 ∧ i.bytes ≤ 2000 := by
  have h := infoEvent
  cases e : Tryz.prog.info? 75 with
  | none => rw [e] at h; cases h
  | some i =>
    rw [e] at h
    simp only [Option.map_some, Option.some.injEq, Prod.mk.injEq, decide_eq_true_eq] at h
    exact ⟨i, rfl, h.1, h.2.1, h.2.2⟩
theorem run_eqlS (w : World) : (Op.equalIn 10000 83 (.agg #[.int .i32 1073741824, .int .i32 0, .int .i32 0, .int .i32 0, .int .i32 0, .int .i32 0, .int .i32 0, .int .i64 0, .int .i64 0]) (.agg #[.int .i32 1073741824, .int .i32 0, .int .i32 0, .int .i32 0, .int .i32 0, .int .i32 0, .int .i32 0, .int .i64 0, .int .i64 0])).run Tryz.prog w = .ok true w := by kernel_rfl
set_option maxRecDepth 100000 in
set_option maxHeartbeats 8000000 in
theorem topQuiet_walk (A0 : Option Addr) (n0 c0 : Nat) (xs : List Int) (w : World) (h : In .i64 w A0 n0 c0 xs) :
    Calls Tryz.prog 3 #[.slice A0 n0 c0] w fun e w' => e = .returned (.bool true) ∧ Below w.heap.size w w' := by
  obtain ⟨hr, hm, _, hw⟩ := h
  clear hw hm
  by_cases g1 : 20 < n0
  · go_enter Tryz.func3, Tryz.ntmps3
    go_wp2_with (go_at_call 4; refine (top_knows _).mono ?_; rintro e w' ⟨rfl, hb⟩)
    go_ret
    exact ⟨rfl, hb⟩
  have d1 : decide ((20 : Int) < n0) = false := by simp; omega
  obtain ⟨ei, hi, hz, hz1, hby⟩ := info_event
  go_enter Tryz.func3, Tryz.ntmps3
  go_wp2_with fail
  refine (top_knows w).mono ?_
  rintro e w1 ⟨rfl, b1⟩
  go_wp2_with fail
  refine (n_New w1).mono ?_
  rintro e w2 ⟨nb, db, wa, q, mb, g, cap, tA, tB, H, A, B, rfl, hI, hb, hp⟩
  replace hp : ∀ i, PD nb g tA tB i → w.heap.size ≤ i := fun i hi => Nat.le_trans b1.size (hp i hi)
  have hB2 := f_on b1 hb
  have hL1 : Loop1 nb db wa q mb g cap tA tB n0 w2.heap.size H A B w (.int .i64 0) (.slice none 0 0) (.int .i64 0) w2 := ⟨0, 0, 0, 0, 0, none, [], rfl, rfl, rfl, Nat.zero_le _, by decide, by decide, by decide, rfl, hI, OTab.nil_ 123 w2 w2.heap.size 75, Evs.nil_ w2 0, hB2, Nat.le_refl _⟩
  have HL1 := hid hL1
  have HP := hid hp
  have hwb : w.heap.size ≤ w2.heap.size := hB2.size
  clear hI hb hp hL1 b1 hB2
  generalize w2.heap.size = base at *
  go_wp2_with fail
  go_loopw [4, 5, 6] (fun now out i wr => Loop1 nb db wa q mb g cap tA tB n0 base H A B w now out i wr) (fun _ _ i _ => n0 - (intOf i).toNat)
  case atStart => exact HL1.out
  case round =>
    clear HL1
    obtain ⟨j, n, c, N, s, O, evs, rfl, rfl, rfl, hj, hN0, hN1, hn, hs, hI, hO, hE, hb, hbs⟩ := hrel
    have hcb := cnt_bd N (by omega)
    by_cases hlt : j < n0
    · obtain ⟨ad, rfl, _, hc⟩ := (hr.below hb).at_ hlt
      obtain ⟨x, hx⟩ : ∃ x, xs[j]?.getD 0 = x := ⟨_, rfl⟩
      rw [hx] at hc
      clear hx
      have j0 : (0 : Int) ≤ (j : Int) := by omega
      have j1 : (j : Int) < (n0 : Int) := by omega
      have m1 : n0 - (j + 1) < n0 - j := by omega
      have HST := hid (show ∀ v, v = .int .i64 ((j + 1 : Nat) : Int) → Loop1 nb db wa q mb g cap tA tB n0 base H A B w (.int .i64 N) (.slice O n c) v wr from fun v hv => ⟨j + 1, n, c, N, s, O, evs, rfl, rfl, hv, hlt, hN0, by omega, hn, hs, hI, hO, hE, hb, hbs⟩)
      by_cases hx0 : x < 0
      · clear hI hO hE hb hbs hn hs
        go_wp2
        go_roundw
        case rel => exact HST.out _ (by go_num)
        case measure => simp [intOf]; omega
      by_cases hx1 : 10000 < x
      · clear hI hO hE hb hbs hn hs
        go_wp2
        go_roundw
        case rel => exact HST.out _ (by go_num)
        case measure => simp [intOf]; omega
      clear HST
      have u1 : IntKind.i64.wrap (N + x) = N + x := IntWalk.i64_in _ (by omega)
      have HDo := hid (n_Do word0 nb db wa q mb g cap tA tB n s N x (N + x) H A B wr hs hn rfl hN0 ⟨by omega, by omega⟩ (by omega) hI)
      have hN2 : 0 ≤ N + x ∧ N + x ≤ 10000 * ((j + 1 : Nat) : Int) := by omega
      have HI := hid hI
      have HO := hid hO
      have HE := hid hE
      have HB := hid hb
      have HN := hid hn
      clear hI hO hE hb hn hs
      go_wp2_with fail
      refine HDo.out.mono ?_
      rintro e w3 ⟨n', c', base', O', s', evs', rfl, hbs', hcnt, hs', hI', hO', hb', hE', hk⟩
      have hO2 : OTab 123 w3 base 75 O n c evs := HO.out.keptP hk (fun i cs hi hB => by
        obtain ⟨cs', h1 | h1 | h1⟩ := pd_typed HI.out i hi <;> exact absurd (hB.alone h1) (by decide))
      have hE2 : Evs w3 0 evs := HE.out.keptP hk (fun i cs hi hB => by
        obtain ⟨cs', h1 | h1 | h1⟩ := pd_typed HI.out i hi <;> exact absurd (hB.alone h1) (by decide))
      have hb3 : Below w.heap.size w w3 := HB.out.trans (hk.to_below HP.out HB.out.size)
      have hbs3 : base ≤ w3.heap.size := Nat.le_trans hbs hk.below.size
      have hTab := hO'.tab
      have hnb : n + n' ≤ 3300 := by have := cnt_bd (N + x) (by omega); omega
      have hby2 : (n + n') * ei.bytes ≤ 140737488355328 := Nat.le_trans (Nat.mul_le_mul hnb hby) (by decide)
      have HI3 := hid hI'
      have HE3 := hid hE'
      have HE2 := hid hE2
      have HB3 := hid hb3
      have HCN := hid hcnt
      have HS3 := hid hs'
      clear hI' hE' hE2 hb3 hcnt hs' hO' hk HI HO HE HB HDo
      go_wp2_with (at_builtin; refine wpList_appW rfl (.tmp 46) (.tmp 53) _ rfl base 75 ei _ 123 ei.bytes Tryz.underlying26 hi hz hz1 rfl rfl (by omega) O n c evs rfl hO2 _ O' n' c' evs' rfl hTab (by unfold maxLen; omega) hby2 hbs3 ?_; intro A2 c2 V2 hO3 hg2)
      have hKo : Kept (fun i => (Value.slice O n c).ownBlock = some i) w3 V2 := ⟨⟨hg2.os, hg2.tape, hg2.output, hg2.size, fun i hi => by omega⟩, fun i hi hp => hg2.block i hi (fun e => hp e.symm)⟩
      have hty := hO2.typed
      have hI4 := HI3.out.keptE hKo (fun i _ hi => (hty i hi).2.2)
      have hE4 := HE2.out.keptP hKo (fun i cs hi hB => by obtain ⟨_, _, cs', h1⟩ := hty i hi; exact absurd (hB.alone h1) (by decide))
      have hE5 := HE3.out.keptP hKo (fun i cs hi hB => by obtain ⟨_, _, cs', h1⟩ := hty i hi; exact absurd (hB.alone h1) (by decide))
      have hlen : evs.length = n := hO2.2.2
      have hE6 : Evs V2 0 (evs ++ evs') := hE4.two (by rw [hlen, Nat.zero_add]; exact hE5)
      have hb4 : Below w.heap.size w V2 := HB3.out.trans (hKo.to_below (fun i hi => Nat.le_trans hwb (hty i hi).1) HB3.out.size)
      have HST := hid (show ∀ v, v = .int .i64 ((j + 1 : Nat) : Int) → Loop1 nb db wa q mb g cap tA tB n0 base H A B w (.int .i64 (N + x)) (.slice A2 (n + n') c2) v V2 from fun v hv => ⟨j + 1, n + n', c2, N + x, s', A2, evs ++ evs', rfl, rfl, hv, hlt, hN2.1, hN2.2, HCN.out, HS3.out, hI4, hO3, hE6, hb4, Nat.le_trans hbs3 hKo.below.size⟩)
      clear hI4 hE4 hE5 hE6 hb4 hKo hty hO2 hO3 hg2 hTab
      go_roundw
      case rel => exact HST.out _ (by go_num)
      case measure => simp [intOf]; omega
    · obtain rfl : j = n0 := by omega
      have HST2 := hid (show Loop2 nb db wa q mb g cap tA tB n c base s N H A B O evs w (.int .i64 0) (.int .i64 0) (.int .i64 0) wr from ⟨0, rfl, rfl, rfl, Nat.zero_le _, hI, hO, hE, hb⟩)
      have HN := hid hn
      have hN3 : N ≤ 200000 := by omega
      have hn3 : n ≤ 3300 := by omega
      clear hI hO hE hb hbs hn hs hr hi hz hz1 hby HP hcb hN1
      go_wp2_with fail
      go_loopw [7, 8, 9] (fun words beats i wv => Loop2 nb db wa q mb g cap tA tB n c base s N H A B O evs w words beats i wv) (fun _ _ i _ => n - (intOf i).toNat)
      case atStart => exact HST2.out
      case round =>
        clear HST2
        obtain ⟨k, rfl, rfl, rfl, hkn, hI, hO, hE, hb⟩ := hrel
        have hwl := wd_le k
        by_cases hlt : k < n
        · obtain ⟨p, hp⟩ : ∃ p, evs[k]? = some p := ⟨_, List.getElem?_eq_getElem (by rw [hO.2.2]; exact hlt)⟩
          obtain ⟨X, d, rfl, hx⟩ := hE k p hp
          rw [Nat.zero_add] at hx hp
          obtain ⟨ad, rfl, _, hcell⟩ := hO.tab.at_ hp
          have c121 := hcell 121 (.slice X (lenP k) d) rfl
          rw [add_up] at c121
          have k0 : (0 : Int) ≤ (k : Int) := by omega
          have k1 : (k : Int) < (n : Int) := by omega
          have m1 : n - (k + 1) < n - k := by omega
          have HTE := hid (t_event k d X wr (by omega) hx)
          have HST := hid (show ∀ w5, Below w.heap.size w w5 → Below wr.heap.size wr w5 → ∀ a b v, a = .int .i64 ((wd (k + 1) : Nat) : Int) → b = .int .i64 ((bt (k + 1) : Nat) : Int) → v = .int .i64 ((k + 1 : Nat) : Int) → Loop2 nb db wa q mb g cap tA tB n c base s N H A B (some ad) evs w a b v w5 from fun w5 hb5 hb6 a b v ha hb' hv => ⟨k + 1, ha, hb', hv, hlt, hI.below hb6, hO.below hb6 (Nat.le_refl _), hE.below hb6, hb5⟩)
          have HB := hid hb
          clear hI hO hE hb hx hp hcell
          go_wp2_with fail
          refine HTE.out.mono ?_
          rintro e w4 ⟨id, NN, g2, m, rfl, hb4, hcase⟩
          have HB4 := hid (HB.out.trans (hb4.mono HB.out.size))
          have HC4 := hid hb4
          clear c121 hb4 HB HTE
          have e1 := Blk.new w4 38 #[.int .i64 0, .int .i64 0, .int .i64 0, .int .i64 0, .slice none 0 0]
          have t1 := e1.setRow #[.int .i64 ((k : Int) % 256), .int .i64 1, .int .i64 1, .int .i64 id, .slice (some ⟨g2, 0, none⟩) m m]
          have t2 := below_setRow ((Below.refl w4.heap.size w4).alloc (Nat.le_refl _) (.cells #[.int .i64 0, .int .i64 0, .int .i64 0, .int .i64 0, .slice none 0 0] 38)) (Nat.le_refl _) #[.int .i64 ((k : Int) % 256), .int .i64 1, .int .i64 1, .int .i64 id, .slice (some ⟨g2, 0, none⟩) m m]
          have hv : (k % 11 = 9 ∧ id = 0) ∨ (¬ k % 11 = 9 ∧ id = 200 ∧ m = 5 ∧ ((w4.alloc (.cells #[.int .i64 0, .int .i64 0, .int .i64 0, .int .i64 0, .slice none 0 0] 38)).setRow w4.heap.size #[.int .i64 ((k : Int) % 256), .int .i64 1, .int .i64 1, .int .i64 id, .slice (some ⟨g2, 0, none⟩) m m]).cell? ⟨g2, 0, none⟩ = some (.int .i64 (dueW k)) ∧ ((w4.alloc (.cells #[.int .i64 0, .int .i64 0, .int .i64 0, .int .i64 0, .slice none 0 0] 38)).setRow w4.heap.size #[.int .i64 ((k : Int) % 256), .int .i64 1, .int .i64 1, .int .i64 id, .slice (some ⟨g2, 0, none⟩) m m]).cell? ⟨g2, 1, none⟩ = some (.int .i64 537395712)) := by
            rcases hcase with h | ⟨h1, h2, h3, h4, h5⟩
            · exact .inl h
            · exact .inr ⟨h1, h2, h3, (t2.cell (World.block_lt_of_cell? _ _ h4)).trans h4, (t2.cell (World.block_lt_of_cell? _ _ h5)).trans h5⟩
          have T1 := hid t1
          have T2 := hid t2
          have HV := hid hv
          clear hcase t1 t2 hv
          go_wp2_with (refine wpList_store_rowTo rfl 38 _ _ rfl rfl w4.heap.size #[.int .i64 ((k : Int) % 256), .int .i64 1, .int .i64 1, .int .i64 id, .slice (some ⟨g2, 0, none⟩) m m] rfl rfl 38 #[.int .i64 0, .int .i64 0, .int .i64 0, .int .i64 0, .slice none 0 0] e1 (by kernel_rfl) (by kernel_rfl) (by kernel_rfl) ?_; generalize (w4.alloc (.cells #[.int .i64 0, .int .i64 0, .int .i64 0, .int .i64 0, .slice none 0 0] 38)).setRow w4.heap.size #[.int .i64 ((k : Int) % 256), .int .i64 1, .int .i64 1, .int .i64 id, .slice (some ⟨g2, 0, none⟩) m m] = W5 at *)
          refine (top_num 0 W5).mono ?_
          rintro e w6 ⟨rfl, rfl⟩
          have p0 : w6.cell? ⟨w4.heap.size, 0, none⟩ = some (.int .i64 ((k : Int) % 256)) := T1.out.cell 0
          have p3 : w6.cell? ⟨w4.heap.size, 3, none⟩ = some (.int .i64 id) := T1.out.cell 3
          have p4 : w6.cell? ⟨w4.heap.size, 4, none⟩ = some (.slice (some ⟨g2, 0, none⟩) m m) := T1.out.cell 4
          have hb6 : Below wr.heap.size wr w6 := f_on HC4.out T2.out
          have hb5 : Below w.heap.size w w6 := f_on HB4.out T2.out
          have HST6 := hid (HST.out w6 hb5 hb6)
          have htm : Int.tmod (k : Int) 256 = (k : Int) % 256 := Int.tmod_eq_emod_of_nonneg k0
          have uwr : IntKind.i64.wrap ((k : Int) % 256) = (k : Int) % 256 := IntWalk.i64_in _ (by omega)
          have uw : IntKind.i64.wrap (((wd k : Nat) : Int) + 1) = ((wd k : Nat) : Int) + 1 := IntWalk.i64_in _ (by omega)
          have ub : IntKind.i64.wrap (((bt k : Nat) : Int) + 1) = ((bt k : Nat) : Int) + 1 := IntWalk.i64_in _ (by omega)
          have um : IntKind.i64.wrap (100 * (((wd k : Nat) : Int) + 1)) = 100 * (((wd k : Nat) : Int) + 1) := IntWalk.i64_in _ (by omega)
          have ed : dueW k = 100 * (((wd k : Nat) : Int) + 1) := by unfold dueW; omega
          rcases HV.out with ⟨h1, rfl⟩ | ⟨h1, rfl, rfl, h4, h5⟩
          · have HW := hid (wd_beat k h1)
            clear HV HST T1 T2 HB4 HC4 e1 hb5 hb6 h1 um uw ed
            go_wp2
            go_roundw
            case rel => exact HST6.out _ _ _ (by rw [HW.out.1]) (by rw [HW.out.2]; go_num) (by go_num)
            case measure => simp [intOf]; omega
          · have HW := hid (wd_word k h1)
            rw [ed] at h4
            clear HV HST T1 T2 HB4 HC4 e1 hb5 hb6 h1 ub ed
            go_wp2
            go_roundw
            case rel => exact HST6.out _ _ _ (by rw [HW.out.1]; go_num) (by rw [HW.out.2]) (by go_num)
            case measure => simp [intOf]; omega
        · obtain rfl : k = n := by omega
          have hwc := wd_cnt N hN0
          rw [← HN.out] at hwc
          have t1 : Int.tdiv N 100 = N / 100 := Int.tdiv_eq_ediv_of_nonneg hN0
          have t2 : Int.tdiv N 1000 = N / 1000 := Int.tdiv_eq_ediv_of_nonneg hN0
          have u1 : IntKind.i64.wrap (N / 100) = N / 100 := IntWalk.i64_in _ (by omega)
          have u2' : IntKind.i64.wrap (N / 1000) = N / 1000 := IntWalk.i64_in _ (by omega)
          rw [hwc.1, hwc.2]
          have EQ := run_eqlS
          have HI := hid hI
          have HB := hid hb
          clear hI hO hE hb hwc HN
          go_wp2_with fail
          refine (n_Now nb db wa q mb g cap tA tB k s N H A B wr HI.out).mono ?_
          rintro e w3 ⟨rfl, rfl⟩
          go_wp2_with fail
          refine (n_Filter nb db wa q mb g cap tA tB k s N H A B w3 HI.out).mono ?_
          rintro e w4 ⟨rfl, b4⟩
          have HB4 := hid (HB.out.trans (b4.mono HB.out.size))
          clear b4 HB
          go_wp2_with fail
          refine (f_Start w4).mono ?_
          rintro e w5 ⟨rfl, b5⟩
          have HB5 := hid (HB4.out.trans (b5.mono HB4.out.size))
          clear b5 HB4
          go_wp2
          go_ret
          exact ⟨rfl, HB5.out⟩
end Go.Proofs.YtldoocndhfgjhaaGreat
